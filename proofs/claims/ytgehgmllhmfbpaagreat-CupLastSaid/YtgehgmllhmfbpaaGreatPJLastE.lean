/- Parts of the proof of JLast: laws of walks, contracts of functions, plain models. No condition. -/
import Derived.Test.YtgehgmllhmfbpaaGreatPJLastD
set_option linter.unusedVariables false
set_option linter.unusedSimpArgs false
set_option maxRecDepth 100000
section
namespace Go.Proofs
open KL Go.RowKit
namespace KV
open Go.ChangeMaps (setBlock)
variable {C C0:Cx} {M M0:Mem} {w w0:World}

theorem info3z:(Tryz.prog.info? 3).map (fun i=>(i.zero,i.size,i.bytes))=some (some (.int .i64 0),1,8):=by kernel_rfl
theorem ti3:∃ i,tiOf Tryz.prog 3=some i∧i.agg=false∧i.size=1:=by
  have h:(tiOf Tryz.prog 3).map (fun i=>(i.agg,i.size))=some (false,1):=by kernel_rfl
  cases h2:tiOf Tryz.prog 3 with
  | none=>rw [h2] at h;cases h
  | some i=>rw [h2] at h;simp at h;exact ⟨i,rfl,h.1,h.2⟩
abbrev mpv(mb:Nat):PV := .v (.map (some mb))
abbrev stT(c:KL.Cup)(ns:List Int)(mo:Int)(qs:List Int):St:=⟨fr 161 [(1,(.p (intsP ns))),(2,(.p (intP mo))),(3,(.p (intsP qs))),(10,(.ptr 0 0))],[some (.box 120 [(.p (intP c.sk)),(.p (intP c.ra)),(.p (intP c.be)),(.p (intsP c.pts)),(.p (rowsP c.done))])]⟩
abbrev stA(c:KL.Cup)(ns:List Int)(mo:Int)(qs:List Int)(mv:PV):St:=⟨fr 161 [(1,(.p (intsP ns))),(2,(.p (intP mo))),(3,(.p (intsP qs))),(10,(.ptr 0 0)),(12,(.p mv))],[some (.box 120 [(.p (intP c.sk)),(.p (intP c.ra)),(.p (intP c.be)),(.p (intsP c.pts)),(.p (rowsP c.done))])]⟩
abbrev stB(ns:List Int)(mo:Int)(qs:List Int)(mv:PV)(ts:List Int)(i:Nat):St:=⟨fr 161 [(1,(.p (intsP ns))),(2,(.p (intP mo))),(3,(.p (intsP qs))),(12,(.p mv)),(63,(.p (intsP ts))),(64,(.p (intP (ts.length:Int)))),(65,(.p (intP (i:Int))))],[]⟩
abbrev stD(ns:List Int)(mo:Int)(qs:List Int)(mv:PV)(ts:List Int)(i:Nat)(x:Int):St:=⟨fr 161 [(1,(.p (intsP ns))),(2,(.p (intP mo))),(3,(.p (intsP qs))),(12,(.p mv)),(13,(.p (intP (i:Int)))),(14,(.p (intP x))),(63,(.p (intsP ts))),(64,(.p (intP (ts.length:Int)))),(65,(.p (intP (i:Int))))],[]⟩
abbrev stF(ns:List Int)(mo:Int)(qs:List Int)(mv:PV)(n:Nat)(o:List (List Int)):St:=⟨fr 161 [(1,(.p (intsP ns))),(2,(.p (intP mo))),(3,(.p (intsP qs))),(12,(.p mv)),(15,(.own 0)),(85,(.p (intP (n:Int))))],[some (.row 40 o.length (o.flatten.map intP))]⟩
abbrev stG(ns:List Int)(mo:Int)(qs:List Int)(mv:PV)(n:Nat)(o:List (List Int)):St:=⟨fr 161 [(1,(.p (intsP ns))),(2,(.p (intP mo))),(3,(.p (intsP qs))),(12,(.p mv)),(15,(.own 0)),(16,(.p (intP (n:Int)))),(85,(.p (intP (n:Int))))],[some (.row 40 o.length (o.flatten.map intP))]⟩
abbrev stN(ns:List Int)(mo:Int)(qs:List Int)(mv:PV)(n:Nat)(o:List (List Int)):St:=⟨fr 161 [(1,(.p (intsP ns))),(2,(.p (intP mo))),(3,(.p (intsP qs))),(12,(.p mv)),(15,(.own 0)),(16,(.p (intP (n:Int)))),(17,(.p nilS)),(85,(.p (intP (n:Int))))],[some (.row 40 o.length (o.flatten.map intP))]⟩
abbrev stH(ns:List Int)(mo:Int)(qs:List Int)(mv:PV)(n:Nat)(o:List (List Int))(y:Int)(l:List Int):St:=⟨fr 161 [(1,(.p (intsP ns))),(2,(.p (intP mo))),(3,(.p (intsP qs))),(12,(.p mv)),(15,(.own 0)),(16,(.p (intP (n:Int)))),(17,(.own 1)),(85,(.p (intP (n:Int))))],[some (.row 40 o.length (o.flatten.map intP)),some (.row 3 (l.length+1) ((intP y)::(l.map intP)))]⟩

theorem ops14_ex:∃ l:List Oper,sub (cd Tryz.f22) [1,1,1,1,0,1,0,0,1,1,0,0,1] = .region 14 l.toArray true∧closedL l [0,1,2,3,4,5,6,7,8,9,10,11] 12 13 14=true∧l.map (fun o=>(o.op,o.dst))=[(.move (.tmp 12),some 70),(.move (.tmp 1),some 71),(.move (.tmp 13),some 72),(.indexAddr 22 (.tmp 71) (.tmp 72),some 73),(.load 3 (.tmp 73),some 74),(.move (.tmp 12),some 75),(.move (.tmp 1),some 76),(.move (.tmp 13),some 77),(.indexAddr 22 (.tmp 76) (.tmp 77),some 78),(.load 3 (.tmp 78),some 79),(.lookup 124 (.tmp 75) (.tmp 79) false,some 80),(.move (.tmp 14),some 81),(.buildSlice 22 1 #[(0,.tmp 81)],some 82),(.call { callee := .builtin .append,args := #[.tmp 80,.tmp 82],argTypes := #[22,22] },some 83),(.mapUpdate 124 (.tmp 70) (.tmp 74) (.tmp 83),none)] :=
  ⟨match sub (cd Tryz.f22) [1,1,1,1,0,1,0,0,1,1,0,0,1] with | .region _ ops _=>ops.toList | _=>[],by kernel_rfl,by kernel_rfl,by kernel_rfl⟩
theorem r14{ns ts:List Int}{mo:Int}{qs:List Int}{i:Nat}{k x:Int}(hk:ns[i]? = some k)(hkw:(Lit.int .i64 k).wf=true){G G':List Ent→Prop}(hGl:∀ L,G L→∀ e∈L,e.l.length≤1000)
    (hG:∀ L e mb es,G L→MapOK mb es L→e.k=k→e.l=lookL L k++[x]→G' (putE L e)) :
    CodeR Tryz.prog 0 (sub (cd Tryz.f22) [1,1,1,1,0,1,0,0,1,1,0,0,1]) (fun st R=>∃ mb es cl L,st=stD ns mo qs (mpv mb) ts i x∧R=mapR mb es cl L∧MapOK mb es L∧G L) .normal
      (fun st R=>∃ mb es cl L,st=stD ns mo qs (mpv mb) ts i x∧R=mapR mb es cl L∧MapOK mb es L∧G' L):=by
  obtain ⟨l,hc,hB,hops⟩:=ops14_ex
  rw [hc]
  refine CodeR.hand fun C0 M0 w0 a w st R hM0 hΨ hd hs => ?_
  obtain ⟨mb,es,cl,L,rfl,rfl,hM,hGL⟩:=hΨ
  obtain ⟨o0,l0,rfl,h0,hops⟩:=List.map_eq_cons_iff.1 hops
  obtain ⟨o1,l1,rfl,h1,hops⟩:=List.map_eq_cons_iff.1 hops
  obtain ⟨o2,l2,rfl,h2,hops⟩:=List.map_eq_cons_iff.1 hops
  obtain ⟨o3,l3,rfl,h3,hops⟩:=List.map_eq_cons_iff.1 hops
  obtain ⟨o4,l4,rfl,h4,hops⟩:=List.map_eq_cons_iff.1 hops
  obtain ⟨o5,l5,rfl,h5,hops⟩:=List.map_eq_cons_iff.1 hops
  obtain ⟨o6,l6,rfl,h6,hops⟩:=List.map_eq_cons_iff.1 hops
  obtain ⟨o7,l7,rfl,h7,hops⟩:=List.map_eq_cons_iff.1 hops
  obtain ⟨o8,l8,rfl,h8,hops⟩:=List.map_eq_cons_iff.1 hops
  obtain ⟨o9,l9,rfl,h9,hops⟩:=List.map_eq_cons_iff.1 hops
  obtain ⟨o10,l10,rfl,h10,hops⟩:=List.map_eq_cons_iff.1 hops
  obtain ⟨o11,l11,rfl,h11,hops⟩:=List.map_eq_cons_iff.1 hops
  obtain ⟨o12,l12,rfl,h12,hops⟩:=List.map_eq_cons_iff.1 hops
  obtain ⟨o13,l13,rfl,h13,hops⟩:=List.map_eq_cons_iff.1 hops
  obtain ⟨o14,l14,rfl,h14,hops⟩:=List.map_eq_cons_iff.1 hops
  obtain rfl:=List.map_eq_nil_iff.1 hops
  obtain ⟨q0,d0⟩:=Prod.mk.inj h0
  obtain ⟨q1,d1⟩:=Prod.mk.inj h1
  obtain ⟨q2,d2⟩:=Prod.mk.inj h2
  obtain ⟨q3,d3⟩:=Prod.mk.inj h3
  obtain ⟨q4,d4⟩:=Prod.mk.inj h4
  obtain ⟨q5,d5⟩:=Prod.mk.inj h5
  obtain ⟨q6,d6⟩:=Prod.mk.inj h6
  obtain ⟨q7,d7⟩:=Prod.mk.inj h7
  obtain ⟨q8,d8⟩:=Prod.mk.inj h8
  obtain ⟨q9,d9⟩:=Prod.mk.inj h9
  obtain ⟨q10,d10⟩:=Prod.mk.inj h10
  obtain ⟨q11,d11⟩:=Prod.mk.inj h11
  obtain ⟨q12,d12⟩:=Prod.mk.inj h12
  obtain ⟨q13,d13⟩:=Prod.mk.inj h13
  obtain ⟨q14,d14⟩:=Prod.mk.inj h14
  have hsz:a.tmps.size=161:=hs.size
  have v12:a.tmps.getD 12 undef = .map (some mb):=hs.slot rfl
  have v13:a.tmps.getD 13 undef = .int .i64 i:=hs.slot rfl
  have v14:a.tmps.getD 14 undef = .int .i64 x:=hs.slot rfl
  obtain ⟨p,cap,v1,hc1,hc2,hcell⟩:=hs.ints (i:=1) (l:=ns) rfl
  obtain ⟨b,o,rfl,hb,hcl,hne⟩:=hcell i k hk
  have V12:a.eval (.tmp 12) = .map (some mb):=v12
  have V13:a.eval (.tmp 13) = .int .i64 i:=v13
  have V14:a.eval (.tmp 14) = .int .i64 x:=v14
  have V1:a.eval (.tmp 1) = .slice (some ⟨b,o,none⟩) ns.length cap:=v1
  obtain ⟨i3,t3,ha3,hs3⟩:=ti3
  have hil:(i:Int)<(ns.length:Int):=by
    have:=(List.getElem?_eq_some_iff.1 hk).1
    omega
  have hix:∀ W,(Instr.indexAt 22 (.slice (some ⟨b,o,none⟩) ns.length cap) (.int .i64 i)).run Tryz.prog W = .ok (.pointer (some ⟨b,o+i,none⟩)) W:=fun W=>by
    have:=run_indexAt_slice (P:=Tryz.prog) (w:=W) Tryz.underlying22 t3 (b:=b) (off:=o) (n:=ns.length) (cap:=cap) (k := .i64) (i:=(i:Int)) (by omega) hil
    rw [hs3,Nat.mul_one,Int.toNat_natCast] at this
    exact this
  have hmb:w.heap[mb]? = some (.map es cl):=hs.has (mb,.map es cl) (by simp [mapR])
  have hs':=hs.drawn (w.drawn+1)
  obtain ⟨v2,w2,es',cl',e,hrun,hkeep,hmb2,hup,hM',hek,hel,hd',hsim⟩:=mapStep (P:=Tryz.prog) (kt:=3) (S22:=22) (ty:=o13.type) (k:=k) (x:=x) Tryz.underlying124 Tryz.underlying3 Tryz.underlying22 info3z hs' hd hM hkw (hGl L hGL)
  refine region3 (P:=Tryz.prog) (o1:=o12) (o2:=o13) (o3:=o14) (S:=fun W=>W.cell? ⟨b,o+i,none⟩=some (.int .i64 k)∧W.heap[mb]? = some (.map es cl)) [0,1,2,3,4,5,6,7,8,9,10,11] 12 13 14 mixed hB rfl rfl rfl (fun c a w h=>by cases h.1) ⟨hcl,hmb⟩
    [.map (some mb),.slice (some ⟨b,o,none⟩) ns.length cap,.int .i64 i,.pointer (some ⟨b,o+i,none⟩),.int .i64 k,.map (some mb),.slice (some ⟨b,o,none⟩) ns.length cap,.int .i64 i,.pointer (some ⟨b,o+i,none⟩),.int .i64 k,lookV L k,.int .i64 x] rfl ?_ ?_
  · refine ⟨fun W hW=>ex_move q0 (by simp [eval_put_ne,eval_put_same,put_size,hsz,V12,V13,V14,V1,d0,d1,d2,d3,d4,d5,d6,d7,d8,d9,d10,d11]),fun W hW=>ex_move q1 (by simp [eval_put_ne,eval_put_same,put_size,hsz,V12,V13,V14,V1,d0,d1,d2,d3,d4,d5,d6,d7,d8,d9,d10,d11]),fun W hW=>ex_move q2 (by simp [eval_put_ne,eval_put_same,put_size,hsz,V12,V13,V14,V1,d0,d1,d2,d3,d4,d5,d6,d7,d8,d9,d10,d11]),fun W hW=>ex_index q3 (by simp [eval_put_ne,eval_put_same,put_size,hsz,V12,V13,V14,V1,d0,d1,d2,d3,d4,d5,d6,d7,d8,d9,d10,d11]) (by simp [eval_put_ne,eval_put_same,put_size,hsz,V12,V13,V14,V1,d0,d1,d2,d3,d4,d5,d6,d7,d8,d9,d10,d11]) (hix W),fun W hW=>ex_load q4 (by simp [eval_put_ne,eval_put_same,put_size,hsz,V12,V13,V14,V1,d0,d1,d2,d3,d4,d5,d6,d7,d8,d9,d10,d11]) (run_load1 t3 ha3 hW.1),fun W hW=>ex_move q5 (by simp [eval_put_ne,eval_put_same,put_size,hsz,V12,V13,V14,V1,d0,d1,d2,d3,d4,d5,d6,d7,d8,d9,d10,d11]),fun W hW=>ex_move q6 (by simp [eval_put_ne,eval_put_same,put_size,hsz,V12,V13,V14,V1,d0,d1,d2,d3,d4,d5,d6,d7,d8,d9,d10,d11]),fun W hW=>ex_move q7 (by simp [eval_put_ne,eval_put_same,put_size,hsz,V12,V13,V14,V1,d0,d1,d2,d3,d4,d5,d6,d7,d8,d9,d10,d11]),fun W hW=>ex_index q8 (by simp [eval_put_ne,eval_put_same,put_size,hsz,V12,V13,V14,V1,d0,d1,d2,d3,d4,d5,d6,d7,d8,d9,d10,d11]) (by simp [eval_put_ne,eval_put_same,put_size,hsz,V12,V13,V14,V1,d0,d1,d2,d3,d4,d5,d6,d7,d8,d9,d10,d11]) (hix W),fun W hW=>ex_load q9 (by simp [eval_put_ne,eval_put_same,put_size,hsz,V12,V13,V14,V1,d0,d1,d2,d3,d4,d5,d6,d7,d8,d9,d10,d11]) (run_load1 t3 ha3 hW.1),fun W hW=>ex_lookup q10 (by simp [eval_put_ne,eval_put_same,put_size,hsz,V12,V13,V14,V1,d0,d1,d2,d3,d4,d5,d6,d7,d8,d9,d10,d11]) (by simp [eval_put_ne,eval_put_same,put_size,hsz,V12,V13,V14,V1,d0,d1,d2,d3,d4,d5,d6,d7,d8,d9,d10,d11]) (look_run Tryz.underlying124 Tryz.underlying3 rfl hW.2 hM hkw),fun W hW=>ex_move q11 (by simp [eval_put_ne,eval_put_same,put_size,hsz,V12,V13,V14,V1,d0,d1,d2,d3,d4,d5,d6,d7,d8,d9,d10,d11]),trivial⟩
  · intro a' ha'
    have e70:a'.eval (.tmp 70) = .map (some mb):=by rw [ha'];simp [putsL,eval_put_ne,eval_put_same,put_size,hsz,V12,V13,V14,V1,d0,d1,d2,d3,d4,d5,d6,d7,d8,d9,d10,d11]
    have e74:a'.eval (.tmp 74) = .int .i64 k:=by rw [ha'];simp [putsL,eval_put_ne,eval_put_same,put_size,hsz,V12,V13,V14,V1,d0,d1,d2,d3,d4,d5,d6,d7,d8,d9,d10,d11]
    have e80:a'.eval (.tmp 80)=lookV L k:=by rw [ha'];simp [putsL,eval_put_ne,eval_put_same,put_size,hsz,V12,V13,V14,V1,d0,d1,d2,d3,d4,d5,d6,d7,d8,d9,d10,d11]
    have e81:a'.eval (.tmp 81) = .int .i64 x:=by rw [ha'];simp [putsL,eval_put_ne,eval_put_same,put_size,hsz,V12,V13,V14,V1,d0,d1,d2,d3,d4,d5,d6,d7,d8,d9,d10,d11]
    have hsz':a'.tmps.size=161:=by rw [ha'];simp [putsL,put_size,hsz,d0,d1,d2,d3,d4,d5,d6,d7,d8,d9,d10,d11]
    obtain ⟨inf,hi,hz,hz1,hz2⟩:=info_parts info3z
    have hbld:∀ W:World,(Instr.buildSlice 22 1 #[(0,.int .i64 x)]).run Tryz.prog W = .ok (.slice (some ⟨W.heap.size,0,none⟩) 1 1) (W.alloc (.cells #[.int .i64 x] 3)):=fun W =>
      run_build0 (P:=Tryz.prog) 22 3 inf 1 #[(0,.int .i64 x)] #[.int .i64 x] (.int .i64 0) Tryz.underlying22 hi hz (by rw [hz1];decide) (by rw [hz1];kernel_rfl)
    refine ⟨_,_,v2,w2,setBlock w2 mb (.map es' cl'),ex_build1 q12 e81 (hbld _),?_,ex_append q13 (by rw [d12,eval_put_ne rfl];exact e80) (by rw [d12,eval_put_same (by omega)]) hrun,⟨?_,hmb2.trans hmb⟩,ex_update q14 (by rw [d12,d13,eval_put_ne rfl,eval_put_ne rfl];exact e70) (by rw [d12,d13,eval_put_ne rfl,eval_put_ne rfl];exact e74) (by rw [d12,d13,eval_put_same (by rw [put_size];omega)]) hup,?_⟩
    · obtain ⟨n1,n2,n3⟩:=heap_push { w with drawn:=w.drawn+1 } (.cells #[.int .i64 x] 3)
      exact ⟨(cell_heap (n3 b hb) _).trans hcl,(n3 mb (lt_of_some hmb)).trans hmb⟩
    · exact (cell_heap (hkeep b hb fun q hq=>hne q (List.mem_append_left _ hq)) _).trans hcl
    · refine ⟨rfl,_,_,⟨mb,es',cl',putE L e,rfl,rfl,hM',hG L e mb es hGL hM hek hel⟩,hd',?_⟩
      have h1:=(Sim.anyL [(o0,.map (some mb)),(o1,.slice (some ⟨b,o,none⟩) ns.length cap),(o2,.int .i64 i),(o3,.pointer (some ⟨b,o+i,none⟩)),(o4,.int .i64 k),(o5,.map (some mb)),(o6,.slice (some ⟨b,o,none⟩) ns.length cap),(o7,.int .i64 i),(o8,.pointer (some ⟨b,o+i,none⟩)),(o9,.int .i64 k),(o10,lookV L k),(o11,.int .i64 x)] hsim (by
        simp only [List.all_cons,List.all_nil,d0,d1,d2,d3,d4,d5,d6,d7,d8,d9,d10,d11]
        rfl))
      have h2:=((h1.any o12.dst (.slice (some ⟨w.heap.size,0,none⟩) 1 1) (fun i hi=>by rw [d12] at hi;cases hi;rfl)).any o13.dst v2 (fun i hi=>by rw [d13] at hi;cases hi;rfl)).any o14.dst undef (fun i hi=>by rw [d14] at hi;cases hi)
      rw [ha']
      exact h2
end KV
end Go.Proofs
end
section
namespace Go.Proofs
open KL Go.RowKit
namespace KV
open Go.ChangeMaps (setBlock)
variable {C C0:Cx} {M M0:Mem} {w w0:World}

def grp(ns ts:List Int)(g:Int)(i:Nat):List Int:=((ns.zip ts).take i).filterMap fun p=>if p.1=g then some p.2 else none
theorem grp_zero(ns ts:List Int)(g:Int):grp ns ts g 0=[]:=rfl
theorem grp_succ{ns ts:List Int}{g k x:Int}{i:Nat}(hk:ns[i]? = some k)(hx:ts[i]? = some x):grp ns ts g (i+1)=grp ns ts g i++(if k=g then [x] else []):=by
  have:(ns.zip ts)[i]? = some (k,x):=List.getElem?_zip_eq_some.2 ⟨hk,hx⟩
  unfold grp
  rw [List.take_add_one,this,List.filterMap_append]
  by_cases h:k=g <;> simp [h]
theorem grp_len(ns ts:List Int)(g:Int)(i:Nat):(grp ns ts g i).length≤i:=by
  unfold grp
  exact Nat.le_trans (List.length_filterMap_le _ _) (List.length_take_le _ _)

structure GrpOK (ns ts:List Int) (i:Nat) (L:List Ent):Prop where
  a:∀ e∈L,e.l=grp ns ts e.k i∧e.l≠[]
  b:∀ g,grp ns ts g i≠[]→∃ e∈L,e.k=g
theorem GrpOK.nil(ns ts:List Int):GrpOK ns ts 0 []:=⟨fun e h=>by simp at h,fun g h=>absurd (grp_zero ns ts g) h⟩
theorem GrpOK.look{ns ts:List Int}{i:Nat}{L:List Ent}(h:GrpOK ns ts i L)(k:Int):lookL L k=grp ns ts k i:=by
  unfold lookL
  cases hl:lookE L k with
  | some e =>
    obtain ⟨h1,rfl⟩:=lookE_some hl
    exact (h.a e h1).1
  | none =>
    cases hg:grp ns ts k i with
    | nil=>rfl
    | cons y l =>
      obtain ⟨e,he,hk⟩:=h.b k (by rw [hg];simp)
      exact absurd hk (lookE_none hl e he)
theorem GrpOK.step{ns ts:List Int}{i:Nat}{L:List Ent}{k x:Int}(hk:ns[i]? = some k)(hx:ts[i]? = some x)(h:GrpOK ns ts i L)(e:Ent)(hek:e.k=k)(hel:e.l=lookL L k++[x]):GrpOK ns ts (i+1) (putE L e):=by
  refine ⟨fun y hy => ?_,fun g hg => ?_⟩
  · rcases mem_putE.1 hy with ⟨h1,h2⟩ | rfl
    · obtain ⟨q1,q2⟩:=h.a y h1
      refine ⟨?_,q2⟩
      rw [grp_succ hk hx,if_neg (fun h=>h2 (by rw [hek,h])),List.append_nil]
      exact q1
    · refine ⟨?_,by rw [hel];simp⟩
      rw [hel,h.look,grp_succ hk hx,hek,if_pos rfl]
  · by_cases hgk:g=k
    · exact ⟨e,mem_putE.2 (.inr rfl),by rw [hek,hgk]⟩
    · rw [grp_succ hk hx,if_neg (fun h=>hgk h.symm),List.append_nil] at hg
      obtain ⟨y,hy,hyk⟩:=h.b g hg
      exact ⟨y,mem_putE.2 (.inl ⟨hy,by rw [hyk,hek];exact hgk⟩),hyk⟩

def PsiM(f:PV→St)(G:List Ent→Prop):SR:=fun st R=>∃ mb es cl L,st=f (mpv mb)∧R=mapR mb es cl L∧MapOK mb es L∧G L
def PsiK(f:PV→St)(n:Nat)(G:List Ent→Prop):SR:=fun st R=>∃ mb es cl L,st=f (mpv mb)∧(mb,Obj.map es cl)∈R∧(∀ e∈L,(n:Int)≤e.k→e.blk∈R)∧MapOK mb es L∧G L
section
variable {c:Code} {f f':PV→St} {G:List Ent→Prop} {e:Ex}
theorem CodeR.ofM(h:∀ mb,CodeOK Tryz.prog 0 c (f (mpv mb)) e (f' (mpv mb))):CodeR Tryz.prog 0 c (PsiM f G) e (PsiM f' G):=CodeR.of fun st R ⟨mb,es,cl,L,h1,h2,h3,h4⟩=>⟨_,⟨mb,es,cl,L,rfl,h2,h3,h4⟩,h1 ▸ h mb⟩
theorem CodeR.ofK{n n':Nat}(hn:n≤n')(h:∀ mb,CodeOK Tryz.prog 0 c (f (mpv mb)) e (f' (mpv mb))):CodeR Tryz.prog 0 c (PsiK f n G) e (PsiK f' n' G):=CodeR.of fun st R ⟨mb,es,cl,L,h1,h2,h3,h4,h5⟩=>⟨_,⟨mb,es,cl,L,rfl,h2,fun e he hk=>h3 e he (by omega),h4,h5⟩,h1 ▸ h mb⟩
end

theorem ops10_ex:∃ l:List Oper,sub (cd Tryz.f22) [1,1,1,0] = .region 10 l.toArray false∧l.map (fun o=>(o.op,o.dst,o.guard))=[(.makeMap 124 none,some 61,none),(.assign (.tmp 61),some 12,none)] :=
  ⟨match sub (cd Tryz.f22) [1,1,1,0] with | .region _ ops _=>ops.toList | _=>[],by kernel_rfl,by kernel_rfl⟩
theorem r10{c:KL.Cup}{ns:List Int}{mo:Int}{qs ts:List Int}:CodeR Tryz.prog 0 (sub (cd Tryz.f22) [1,1,1,0]) (fun st R=>st=stT c ns mo qs∧R=[]) .normal (PsiM (stA c ns mo qs) (GrpOK ns ts 0)):=by
  obtain ⟨l,hc,hops⟩:=ops10_ex
  rw [hc]
  refine CodeR.hand fun C0 M0 w0 a w st R hM0 hΨ hd hs => ?_
  obtain ⟨rfl,rfl⟩:=hΨ
  obtain ⟨o0,l0,rfl,h0,hops⟩:=List.map_eq_cons_iff.1 hops
  obtain ⟨o1,l1,rfl,h1,hops⟩:=List.map_eq_cons_iff.1 hops
  obtain rfl:=List.map_eq_nil_iff.1 hops
  obtain ⟨q0,h0⟩:=Prod.mk.inj h0
  obtain ⟨d0,g0⟩:=Prod.mk.inj h0
  obtain ⟨q1,h1⟩:=Prod.mk.inj h1
  obtain ⟨d1,g1⟩:=Prod.mk.inj h1
  have hsz:a.tmps.size=161:=hs.size
  obtain ⟨n1,n2,n3⟩:=heap_push w (.map #[] 0)
  refine wp_region_lit (lex_one (id:=10) g0 (ex_makeMap q0) (lex_one (id:=10) g1 (ex_assign (v := .map (some w.heap.size)) q1 (by rw [d0,eval_put_same (by omega)])) ?_))
  refine wpList_nil ⟨rfl,_,_,⟨w.heap.size,#[],0,[],rfl,rfl,MapOK.nil _,GrpOK.nil _ _⟩,?_,?_⟩
  · intro p hp q hq
    rcases mem_mapR.1 hp with rfl | ⟨e,he,_⟩
    · intro hpq
      have:=lt_of_some (hs.has q (List.mem_append_right _ hq))
      change w.heap.size=q.1 at hpq
      omega
    · simp at he
  · have h2:=hs.beside (R':=mapR w.heap.size #[] 0 []++C0.R) (w':=w.alloc (.map #[] 0)) (fun _=>False) (fun _ h=>h.elim) rfl rfl rfl (by omega) (fun b hb _=>n3 b hb) (fun p hp=>by
      rcases List.mem_append.1 hp with hp | hp
      · rcases mem_mapR.1 hp with rfl | ⟨e,he,_⟩
        · exact .inr ⟨n2,(fun h=>by cases h),.inl (Nat.le_refl _)⟩
        · simp at he
      · exact .inl ⟨List.mem_append_right _ hp,fun h=>h⟩)
    have h3:=(h2.any o0.dst (.map (some w.heap.size)) (fun i hi=>by rw [d0] at hi;cases hi;rfl)).put (some 12) (x := .p (mpv w.heap.size)) (u := .map (some w.heap.size)) (fun _ _ => .p _ _ (.v _))
    rw [d1]
    exact h3

theorem ops20_ex:∃ l:List Oper,sub (cd Tryz.f22) [1,1,1,1,1,1,0,1,0,0,1,1,0,0,1,0] = .region 20 l.toArray false∧l.map (fun o=>(o.op,o.dst,o.guard))=[(.move (.tmp 12),some 88,none),(.move (.tmp 16),some 89,none),(.lookup 124 (.tmp 88) (.tmp 89) false,some 90,none),(.assign (.tmp 90),some 17,none)] :=
  ⟨match sub (cd Tryz.f22) [1,1,1,1,1,1,0,1,0,0,1,1,0,0,1,0] with | .region _ ops _=>ops.toList | _=>[],by kernel_rfl,by kernel_rfl⟩
theorem wf_int{n:Nat}(h:n≤1000):(Lit.int .i64 (n:Int)).wf=true:=by
  simp [Lit.wf,IntKind.min,IntKind.max,IntKind.bits,IntKind.signed]
  omega
theorem r20a{ns ts:List Int}{mo:Int}{qs:List Int}{n:Nat}{o:List (List Int)}{N:Nat}(hn:n≤1000)(K:Act→World→Prop){C0:Cx}{a:Act}{R:List (Nat × Obj)}{mb cl:Nat}{es:Array MapEntry}{L:List Ent}{Q:Exit→Act→World→Prop}(hm:(mb,Obj.map es cl)∈R)(hM:MapOK mb es L)
    (hs:Sim Tryz.prog (C0.with (R++C0.R)) M0 w0 (stG ns mo qs (mpv mb) n o) a w)
    (h:∀ a',(a'.tmps.getD 17 undef=lookV L n)→Sim Tryz.prog (C0.with (R++C0.R)) M0 w0 ⟨KV.put (stG ns mo qs (mpv mb) n o).t (some 17) .any,(stG ns mo qs (mpv mb) n o).m⟩ a' w→Q .normal a' w) :
    (sub (cd Tryz.f22) [1,1,1,1,1,1,0,1,0,0,1,1,0,0,1,0]).wp Tryz.prog Q a w:=by
  obtain ⟨l,hc,hops⟩:=ops20_ex
  rw [hc]
  obtain ⟨o0,l0,rfl,h0,hops⟩:=List.map_eq_cons_iff.1 hops
  obtain ⟨o1,l1,rfl,h1,hops⟩:=List.map_eq_cons_iff.1 hops
  obtain ⟨o2,l2,rfl,h2,hops⟩:=List.map_eq_cons_iff.1 hops
  obtain ⟨o3,l3,rfl,h3,hops⟩:=List.map_eq_cons_iff.1 hops
  obtain rfl:=List.map_eq_nil_iff.1 hops
  obtain ⟨q0,h0⟩:=Prod.mk.inj h0
  obtain ⟨d0,g0⟩:=Prod.mk.inj h0
  obtain ⟨q1,h1⟩:=Prod.mk.inj h1
  obtain ⟨d1,g1⟩:=Prod.mk.inj h1
  obtain ⟨q2,h2⟩:=Prod.mk.inj h2
  obtain ⟨d2,g2⟩:=Prod.mk.inj h2
  obtain ⟨q3,h3⟩:=Prod.mk.inj h3
  obtain ⟨d3,g3⟩:=Prod.mk.inj h3
  have hsz:a.tmps.size=161:=hs.size
  have V12:a.eval (.tmp 12) = .map (some mb):=hs.slot rfl
  have V16:a.eval (.tmp 16) = .int .i64 n:=hs.slot rfl
  have hmb:w.heap[mb]? = some (.map es cl):=hs.has (mb,.map es cl) (List.mem_append_left _ hm)
  refine wp_region_lit (lex_one (id:=20) g0 (ex_move (v := .map (some mb)) q0 V12) (lex_one (id:=20) g1 (ex_move (v := .int .i64 n) q1 (by rw [d0,eval_put_ne rfl];exact V16)) (lex_one (id:=20) g2 (ex_lookup (v := .map (some mb)) (u := .int .i64 n) (r:=lookV L n) q2 (by rw [d0,d1,eval_put_ne rfl,eval_put_same (by omega)]) (by rw [d0,d1,eval_put_same (by rw [put_size];omega)])
    (look_run Tryz.underlying124 Tryz.underlying3 rfl hmb hM (wf_int hn))) (lex_one (id:=20) g3 (ex_assign (v:=lookV L n) q3 (by rw [d2,eval_put_same (by rw [d0,d1,put_size,put_size];omega)])) ?_))))
  refine wpList_nil (h _ ?_ ?_)
  · rw [d0,d1,d2,d3]
    rw [← eval_tmp]
    exact eval_put_same (by rw [put_size,put_size,put_size];omega)
  · have h4:=((hs.any o0.dst (.map (some mb)) (fun i hi=>by rw [d0] at hi;cases hi;rfl)).any o1.dst (.int .i64 n) (fun i hi=>by rw [d1] at hi;cases hi;rfl)).any o2.dst (lookV L n) (fun i hi=>by rw [d2] at hi;cases hi;rfl)
    have h5:=h4.put (some 17) (x := .any) (u:=lookV L n) (fun _ _ => .any _)
    rw [d3]
    exact h5
theorem r20n{ns ts:List Int}{mo:Int}{qs:List Int}{n:Nat}{o:List (List Int)}{N:Nat}(hn:n≤1000)(hg:grp ns ts n N=[]):CodeR Tryz.prog 0 (sub (cd Tryz.f22) [1,1,1,1,1,1,0,1,0,0,1,1,0,0,1,0]) (PsiK (fun mv=>stG ns mo qs mv n o) n (GrpOK ns ts N)) .normal
    (PsiK (fun mv=>stN ns mo qs mv n o) n (GrpOK ns ts N)):=by
  refine CodeR.hand fun C0 M0 w0 a w st R hM0 hΨ hd hs => ?_
  obtain ⟨mb,es,cl,L,rfl,hm,hR,hM,hG⟩:=hΨ
  refine r20a (ts:=ts) (N:=N) hn (fun _ _=>True) hm hM hs fun a' hv hs'=>⟨rfl,_,R,⟨mb,es,cl,L,rfl,hm,hR,hM,hG⟩,hd,?_⟩
  have hl:lookV L n = .slice none 0 0:=by
    unfold lookV
    cases h:lookE L n with
    | none=>rfl
    | some e =>
      obtain ⟨h1,h2⟩:=lookE_some h
      obtain ⟨q1,q2⟩:=hG.a e h1
      rw [h2,hg] at q1
      exact absurd q1 q2
  have hput:a'.put (some 17) (.slice none 0 0)=a':=by
    unfold Act.put
    have hsz:a'.tmps.size=161:=hs'.size
    have:a'.tmps.setIfInBounds 17 (.slice none 0 0)=a'.tmps:=by
      apply Array.ext
      · simp
      · intro j h1 h2
        rw [Array.getElem_setIfInBounds (by simpa using h1)]
        split
        · rename_i e
          subst e
          rw [hl,Array.getD_eq_getD_getElem?,Array.getElem?_eq_getElem h2] at hv
          exact hv.symm
        · rfl
    simp only [this]
  have h5:=hs'.put (some 17) (x := .p nilS) (u := .slice none 0 0) (fun _ _ => .p _ _ (.v _))
  rw [hput] at h5
  exact h5
theorem r20c{ns ts:List Int}{mo:Int}{qs:List Int}{n:Nat}{o:List (List Int)}{N:Nat}{y:Int}{l:List Int}(hn:n≤1000)(hg:grp ns ts n N=y::l):CodeR Tryz.prog 0 (sub (cd Tryz.f22) [1,1,1,1,1,1,0,1,0,0,1,1,0,0,1,0]) (PsiK (fun mv=>stG ns mo qs mv n o) n (GrpOK ns ts N)) .normal
    (PsiK (fun mv=>stH ns mo qs mv n o y l) (n+1) (GrpOK ns ts N)):=by
  refine CodeR.hand fun C0 M0 w0 a w st R hM0 hΨ hd hs => ?_
  obtain ⟨mb,es,cl,L,rfl,hm,hR,hM,hG⟩:=hΨ
  obtain ⟨e,he,hek⟩:=hG.b n (by rw [hg];simp)
  obtain ⟨q1,q2⟩:=hG.a e he
  rw [hek,hg] at q1
  have heR:=hR e he (by rw [hek];omega)
  have hl:lookV L n=e.val:=by unfold lookV;rw [lookE_mem hM.keys he hek]
  refine r20a (ts:=ts) (N:=N) hn (fun _ _=>True) hm hM hs fun a' hv hs'=>⟨rfl,_,R.filter (fun p=>p.1 != e.b),⟨mb,es,cl,L,rfl,List.mem_filter.2 ⟨hm,by simpa using (hM.b_mb he).symm⟩,fun e' he' hk=>List.mem_filter.2 ⟨hR e' he' (by omega),?_⟩,hM,hG⟩,fun p hp=>hd p ((List.mem_filter.1 hp).1),?_⟩
  · simp only [Ent.blk,bne_iff_ne,ne_eq]
    intro hb
    have:=hM.b_inj he' he hb
    rw [this,hek] at hk
    omega
  · have h6:=hs'.less (R':=e.blk::(R.filter (fun p=>p.1 != e.b)++C0.R)) (fun p hp=>by
      rcases List.mem_cons.1 hp with rfl | hp
      · exact List.mem_append_left _ heR
      · rcases List.mem_append.1 hp with hp | hp
        · exact List.mem_append_left _ ((List.mem_filter.1 hp).1)
        · exact List.mem_append_right _ hp)
    obtain ⟨i,hi,hsz⟩:=size3
    have hok:=hM.ok e he
    have hat:=hok.at_
    obtain ⟨r1,r2⟩:=vals_arr (w:=w) (fun _=>True) hat
    have h7:=h6.hand (k:=1) (d:=17) (n:=e.l.length) (cap:=e.cap) (cs:=e.l.map intP) (i:=i) (fun p hp=>by
        rcases List.mem_append.1 hp with hp | hp
        · simpa using (List.mem_filter.1 hp).2
        · exact fun h=>hd e.blk heR p hp h.symm) (by omega) (fun o ho=>by cases ho) (by rw [hv,hl];rfl) hi (by rw [hsz,Nat.mul_one];exact hok.sz) (by rw [hsz];simp) hok.le hok.cap
      (fun F j hj=>(vals_arr (w:=w) F hat).1 j hj) r2
    rw [q1] at h7
    exact h7
end KV
end Go.Proofs
end
section
namespace Go.Proofs
open KL Go.RowKit
namespace KV

abbrev stB6(ns:List Int)(mo:Int)(qs:List Int)(mv:PV)(ts:List Int)(i:Nat):St:=⟨fr 161 [(1,(.p (intsP ns))),(2,(.p (intP mo))),(3,(.p (intsP qs))),(12,(.p mv)),(63,(.p (intsP ts))),(64,(.p (intP (ts.length:Int)))),(65,(.p (intP (i:Int)))),(66,(.p (blP (decide ((i:Int)<(ts.length:Int))))))],[]⟩
abbrev stF6(ns:List Int)(mo:Int)(qs:List Int)(mv:PV)(n:Nat)(o:List (List Int)):St:=⟨fr 161 [(1,(.p (intsP ns))),(2,(.p (intP mo))),(3,(.p (intsP qs))),(12,(.p mv)),(15,(.own 0)),(85,(.p (intP (n:Int)))),(86,(.p (blP (decide ((n:Int)<(31:Int))))))],[some (.row 40 o.length (o.flatten.map intP))]⟩
theorem nat_loop1{ns ts:List Int}{mo:Int}{qs:List Int}(hl:ns.length=ts.length)(hw:∀ k∈ns,(Lit.int .i64 k).wf=true)(hN:ts.length≤1000) :
    CodeR Tryz.prog 0 (sub (cd Tryz.f22) [1,1,1,1,0,1]) (PsiM (fun mv=>stB ns mo qs mv ts 0) (GrpOK ns ts 0)) .normal (PsiM (fun mv=>stB ns mo qs mv ts ts.length) (GrpOK ns ts ts.length)):=by
  rw [show sub (cd Tryz.f22) [1,1,1,1,0,1] = .block 1 (.loop (sub (cd Tryz.f22) [1,1,1,1,0,1,0,0])) from by kernel_rfl]
  refine CodeR.block (LoopR.code (LoopR.times ts.length (fun i=>PsiM (fun mv=>stB ns mo qs mv ts i) (GrpOK ns ts i)) (fun i hi => ?_) ?_ (by simp)))
  · rw [show sub (cd Tryz.f22) [1,1,1,1,0,1,0,0] = .seq (sub (cd Tryz.f22) [1,1,1,1,0,1,0,0,0]) (.seq (sub (cd Tryz.f22) [1,1,1,1,0,1,0,0,1,0]) (.seq (.block 2 (.seq (sub (cd Tryz.f22) [1,1,1,1,0,1,0,0,1,1,0,0,0]) (sub (cd Tryz.f22) [1,1,1,1,0,1,0,0,1,1,0,0,1]))) (sub (cd Tryz.f22) [1,1,1,1,0,1,0,0,1,1,1]))) from by kernel_rfl]
    obtain ⟨k,hk⟩:∃ k,ns[i]? = some k:=⟨_,List.getElem?_eq_getElem (by omega)⟩
    obtain ⟨x,hx⟩:∃ x,ts[i]? = some x:=⟨_,List.getElem?_eq_getElem hi⟩
    have hr:CodeR Tryz.prog 0 (sub (cd Tryz.f22) [1,1,1,1,0,1,0,0,1,1,0,0,1]) (PsiM (fun mv=>stD ns mo qs mv ts i x) (GrpOK ns ts i)) .normal (PsiM (fun mv=>stD ns mo qs mv ts i x) (GrpOK ns ts (i+1))) :=
      r14 (G:=GrpOK ns ts i) (G':=GrpOK ns ts (i+1)) hk (hw k (List.mem_of_getElem? hk)) (fun L hG e he=>by
        rw [(hG.a e he).1]
        have:=grp_len ns ts e.k i
        omega) (fun L e mb es hG hM hek hel=>hG.step hk hx e hek hel)
    exact CodeR.seq (CodeR.ofM (f':=fun mv=>stB6 ns mo qs mv ts i) fun mb=>n12_p0) (CodeR.seq (CodeR.ofM (f':=fun mv=>stB ns mo qs mv ts i) fun mb=>n12c_p0 (by omega)) (CodeR.seq (CodeR.blockn (CodeR.seq (CodeR.ofM (f':=fun mv=>stD ns mo qs mv ts i x) fun mb=>n13_p0 hx) hr)) (CodeR.ofM (f:=fun mv=>stD ns mo qs mv ts i x) (f':=fun mv=>stB ns mo qs mv ts (i+1)) fun mb=>n15_p0 (inR_nat (by omega)))))
  · rw [show sub (cd Tryz.f22) [1,1,1,1,0,1,0,0] = .seq (sub (cd Tryz.f22) [1,1,1,1,0,1,0,0,0]) (.seq (sub (cd Tryz.f22) [1,1,1,1,0,1,0,0,1,0]) (sub (cd Tryz.f22) [1,1,1,1,0,1,0,0,1,1])) from by kernel_rfl]
    exact CodeR.seq (CodeR.ofM (f':=fun mv=>stB6 ns mo qs mv ts ts.length) fun mb=>n12_p0) (CodeR.seqx (CodeR.ofM fun mb=>n12c_p1 (by omega)) (by simp))

def bestS(mo:Int)(l:List Int):Int:=((downI l).take (min mo.toNat l.length)).sum
def outG(ns ts:List Int)(mo:Int)(N g:Nat):List (List Int):=if grp ns ts g N=[] then [] else [[(g:Int),1,bestS mo (grp ns ts g N),0]]
def outL(ns ts:List Int)(mo:Int)(N n:Nat):List (List Int):=(List.range n).flatMap (outG ns ts mo N)
theorem outL_succ(ns ts:List Int)(mo:Int)(N n:Nat):outL ns ts mo N (n+1)=outL ns ts mo N n++outG ns ts mo N n:=by
  unfold outL
  rw [List.range_succ,List.flatMap_append,List.flatMap_singleton]
theorem outL_len(ns ts:List Int)(mo:Int)(N n:Nat):(outL ns ts mo N n).length≤n:=by
  induction n with
  | zero=>simp [outL]
  | succ n ih =>
    rw [outL_succ,List.length_append]
    have:(outG ns ts mo N n).length≤1:=by unfold outG;split <;> simp
    omega
theorem sum_bd{l:List Int}(h:∀ x∈l,0≤x∧x≤1000000):0≤l.sum∧l.sum≤1000000*l.length:=by
  induction l with
  | nil=>simp
  | cons x r ih =>
    have h1:=h x (List.mem_cons_self ..)
    have h2:=ih fun y hy=>h y (List.mem_cons_of_mem _ hy)
    rw [List.sum_cons,List.length_cons]
    omega
theorem grp_mem{ns ts:List Int}{g x:Int}{i:Nat}(h:x∈grp ns ts g i):x∈ts:=by
  unfold grp at h
  obtain ⟨p,hp,hx⟩:=List.mem_filterMap.1 h
  split at hx
  · cases hx
    exact (List.of_mem_zip (List.mem_of_mem_take hp)).2
  · cases hx
theorem downI_mem{l:List Int}{x:Int}:x∈downI l↔x∈l:=isort_mem _ _ _
theorem downI_len(l:List Int):(downI l).length=l.length:=isort_length _ _

theorem nat_loop2{ns ts:List Int}{mo:Int}{qs:List Int}(hl:ns.length=ts.length)(hN:ts.length≤12)(hmo:1≤mo∧mo≤12)(hts:∀ x∈ts,0≤x∧x≤1000000) :
    CodeR Tryz.prog 0 (sub (cd Tryz.f22) [1,1,1,1,1,1,0,1]) (PsiK (fun mv=>stF ns mo qs mv 0 []) 0 (GrpOK ns ts ts.length)) .normal (PsiK (fun mv=>stF ns mo qs mv 31 (outL ns ts mo ts.length 31)) 31 (GrpOK ns ts ts.length)):=by
  rw [show sub (cd Tryz.f22) [1,1,1,1,1,1,0,1] = .block 3 (.loop (sub (cd Tryz.f22) [1,1,1,1,1,1,0,1,0,0])) from by kernel_rfl]
  refine CodeR.block (LoopR.code (LoopR.times 31 (fun n=>PsiK (fun mv=>stF ns mo qs mv n (outL ns ts mo ts.length n)) n (GrpOK ns ts ts.length)) (fun n hn => ?_) ?_ (by simp)))
  · rw [show sub (cd Tryz.f22) [1,1,1,1,1,1,0,1,0,0] = .seq (sub (cd Tryz.f22) [1,1,1,1,1,1,0,1,0,0,0]) (.seq (sub (cd Tryz.f22) [1,1,1,1,1,1,0,1,0,0,1,0]) (.seq (.block 4 (.seq (sub (cd Tryz.f22) [1,1,1,1,1,1,0,1,0,0,1,1,0,0,0]) (.seq (sub (cd Tryz.f22) [1,1,1,1,1,1,0,1,0,0,1,1,0,0,1,0]) (.seq (sub (cd Tryz.f22) [1,1,1,1,1,1,0,1,0,0,1,1,0,0,1,1,0]) (sub (cd Tryz.f22) [1,1,1,1,1,1,0,1,0,0,1,1,0,0,1,1,1]))))) (sub (cd Tryz.f22) [1,1,1,1,1,1,0,1,0,0,1,1,1]))) from by kernel_rfl]
    refine CodeR.seq (CodeR.ofK (f':=fun mv=>stF6 ns mo qs mv n (outL ns ts mo ts.length n)) (Nat.le_refl _) fun mb=>n18_p0) (CodeR.seq (CodeR.ofK (f':=fun mv=>stF ns mo qs mv n (outL ns ts mo ts.length n)) (Nat.le_refl _) fun mb=>n18c_p0 (by omega)) (CodeR.seq (Ψ1:=PsiK (fun mv=>stF ns mo qs mv n (outL ns ts mo ts.length (n+1))) (n+1) (GrpOK ns ts ts.length)) ?_ (CodeR.ofK (Nat.le_refl _) fun mb=>n24_p0 (inR_nat (by omega)))))
    have hol:=outL_len ns ts mo ts.length n
    cases hg:grp ns ts n ts.length with
    | nil =>
      have e1:outL ns ts mo ts.length (n+1)=outL ns ts mo ts.length n:=by rw [outL_succ,outG,if_pos hg,List.append_nil]
      rw [e1]
      exact CodeR.block (CodeR.seq (CodeR.ofK (f':=fun mv=>stG ns mo qs mv n (outL ns ts mo ts.length n)) (Nat.le_refl _) fun mb=>n19_p0) (CodeR.seq (r20n (by omega) hg) (CodeR.seqx (CodeR.ofK (by omega) fun mb=>n21n_p0) (by simp))))
    | cons y l =>
      have hgl:=grp_len ns ts n ts.length
      rw [hg] at hgl
      have hd:=downI_len (y::l)
      have hmin:(if mo<(((downI (y::l)).length:Nat):Int) then mo else (((downI (y::l)).length:Nat):Int))=((min mo.toNat (y::l).length:Nat):Int):=by
        rw [hd];split <;> omega
      have hle:min mo.toNat (y::l).length≤(downI (y::l)).length:=by rw [hd];omega
      have htk:((downI (y::l)).take (min mo.toNat (y::l).length)).length=min mo.toNat (y::l).length:=by rw [List.length_take];omega
      have hmem:∀ j,∀ x∈(((downI (y::l)).take (min mo.toNat (y::l).length)).take j),0≤x∧x≤1000000:=fun j x hx=>hts x (grp_mem (g:=(n:Int)) (i:=ts.length) (by rw [hg];exact downI_mem.1 (List.mem_of_mem_take (List.mem_of_mem_take hx))))
      have e1:outL ns ts mo ts.length (n+1)=outL ns ts mo ts.length n++[[(n:Int),1,((downI (y::l)).take (min mo.toNat (y::l).length)).sum,0]]:=by
        rw [outL_succ,outG,if_neg (by rw [hg];simp),hg];rfl
      refine CodeR.blockn (CodeR.seq (CodeR.ofK (f':=fun mv=>stG ns mo qs mv n (outL ns ts mo ts.length n)) (Nat.le_refl _) fun mb=>n19_p0) (CodeR.seq (r20c (by omega) hg) (CodeR.seq (CodeR.ofK (f':=fun mv=>stH ns mo qs mv n (outL ns ts mo ts.length n) y l) (Nat.le_refl _) fun mb=>n21_p0) (CodeR.ofK (Nat.le_refl _) fun mb=>n22_p0 (l0:=(downI (y::l)).take (min mo.toNat (y::l).length)) ?_ (by simp) ?_ ?_ ?_ ?_ ?_ ?_ ?_ ?_))))
      · omega
      · rw [hmin];omega
      · rw [hmin,htk];omega
      · rw [hmin,Nat.sub_zero,Int.toNat_natCast,List.drop_zero,List.length_map,Nat.div_self (by rw [hd];simp),Nat.mul_one,List.map_take]
      · unfold small;rw [htk];simp only [List.length_cons] at hgl ⊢;omega
      · intro j
        have:=sum_bd (hmem j)
        have h2:(((downI (y::l)).take (min mo.toNat (y::l).length)).take j).length≤12:=by
          rw [List.length_take,htk];simp only [List.length_cons] at hgl ⊢;omega
        unfold inR
        omega
      · exact ⟨rfl,by omega⟩
      · rw [e1,List.length_append];rfl
      · rw [e1,List.flatten_append,List.map_append];rfl
  · rw [show sub (cd Tryz.f22) [1,1,1,1,1,1,0,1,0,0] = .seq (sub (cd Tryz.f22) [1,1,1,1,1,1,0,1,0,0,0]) (.seq (sub (cd Tryz.f22) [1,1,1,1,1,1,0,1,0,0,1,0]) (sub (cd Tryz.f22) [1,1,1,1,1,1,0,1,0,0,1,1])) from by kernel_rfl]
    exact CodeR.seq (CodeR.ofK (f':=fun mv=>stF6 ns mo qs mv 31 (outL ns ts mo ts.length 31)) (Nat.le_refl _) fun mb=>n18_p0) (CodeR.seqx (CodeR.ofK (Nat.le_refl _) fun mb=>n18c_p1 (by omega)) (by simp))
end KV
end Go.Proofs
end
section
namespace Go.Proofs
open KL Go.RowKit
namespace KV

theorem LoopOK.count{P:Program}{k:Nat}{b:Code}{e:Ex}{R:St}(N:Nat)(S:Nat→St)(hs:∀ i,i<N→CodeOK P k b (S i) .normal (S (i+1)))(hx:CodeOK P k b (S N) e R)(he:e ≠ .normal):LoopOK P k b (S 0) e R:=by
  have key:∀ d i,i+d=N→LoopOK P k b (S i) e R:=by
    intro d
    induction d with
    | zero => intro i hi;obtain rfl:i=N:=by omega
              exact .exit hx he
    | succ d ih=>intro i hi;exact .step (hs i (by omega)) (ih (i+1) (by omega))
  exact key N 0 (by omega)

theorem fl_setf{k i f:Nat}{L:List (List Int)}{x:List Int}{y:Int}(h:uni k L)(hx:L[i]? = some x)(hf:f<k):(L.flatten.map intP).set (i*k+f) (intP y)=((L.set i (x.set f y)).flatten.map intP):=by
  have hi:=(List.getElem?_eq_some_iff.1 hx).1
  have hxl:x.length=k:=h x (List.mem_of_getElem? hx)
  have e:L=L.take i++x::L.drop (i+1):=by
    conv=>lhs;rw [← List.take_append_drop i L]
    congr 1
    rw [List.drop_eq_getElem_cons hi]
    congr 1
    exact (List.getElem?_eq_some_iff.1 hx).2
  have hA:(L.take i).flatten.length=i*k:=by
    rw [fl_len (fun y hy=>h y (List.mem_of_mem_take hy)),List.length_take]
    congr 1;omega
  have hset:L.set i (x.set f y)=L.take i++(x.set f y)::L.drop (i+1):=by
    rw [List.set_eq_take_append_cons_drop,if_pos hi]
  rw [hset,← List.map_set]
  congr 1
  conv=>lhs;rw [e]
  rw [List.flatten_append,List.flatten_cons,List.flatten_append,List.flatten_cons]
  rw [List.set_append_right _ _ (by omega),hA,Nat.add_sub_cancel_left,List.set_append_left _ _ (by omega)]

def rkOf(P:List Int)(v:Int)(j:Nat):Int:=1+(((P.take j).filter fun q=>decide (v<q)).length:Int)
theorem rkOf_zero(P:List Int)(v:Int):rkOf P v 0=1:=by simp [rkOf]
theorem rkOf_succ{P:List Int}{v q:Int}{j:Nat}(h:P[j]? = some q):rkOf P v (j+1)=if v<q then rkOf P v j+1 else rkOf P v j:=by
  unfold rkOf
  rw [List.take_add_one,h,List.filter_append,List.length_append]
  split <;> rename_i h2 <;> simp [h2] <;> omega
theorem rkOf_bd(P:List Int)(v:Int)(j:Nat):1≤rkOf P v j∧rkOf P v j≤1+j:=by
  unfold rkOf
  have:=Nat.le_trans (List.length_filter_le (fun q=>decide (v<q)) (P.take j)) (List.length_take_le j P)
  omega
def qtOf(qs:List Int)(rk:Int):Int:=if rk≤qs.length then qs.getD (rk-1).toNat 0 else 0
abbrev pts3(o:List (List Int)):List Int:=o.map fun x=>x.getD 2 0
def finR(qs P:List Int)(x:List Int):List Int:=[x.getD 0 0,rkOf P (x.getD 2 0) P.length,x.getD 2 0,qtOf qs (rkOf P (x.getD 2 0) P.length)]
def natL(qs:List Int)(o:List (List Int)):List (List Int):=isort (ltK 1) (o.map (finR qs (pts3 o)))
def midL(qs:List Int)(o:List (List Int))(i:Nat):List (List Int):=(o.take i).map (finR qs (pts3 o))++o.drop i
def Pt(P:List Int)(r:List (List Int)):Prop:=r.length=P.length∧∀ (j:Nat) (q:Int),P[j]? = some q→∃ a b d,r[j]? = some [a,b,q,d]
theorem Pt.uni{P:List Int}{r:List (List Int)}(h:Pt P r):uni 4 r:=fun x hx=>by
  obtain ⟨j,hj,rfl⟩:=List.getElem_of_mem hx
  obtain ⟨a,b,d,hr⟩:=h.2 j (P[j]'(by rw [← h.1];exact hj)) (List.getElem?_eq_getElem _)
  rw [List.getElem?_eq_getElem hj] at hr
  rw [Option.some.inj hr];rfl
theorem Pt.set{P:List Int}{r:List (List Int)}{i:Nat}{a b q d:Int}(h:Pt P r)(hq:P[i]? = some q):Pt P (r.set i [a,b,q,d]):=by
  refine ⟨by rw [List.length_set];exact h.1,fun j q' hj => ?_⟩
  have hjl:=(List.getElem?_eq_some_iff.1 hj).1
  have hrl:=h.1
  rw [List.getElem?_set]
  by_cases e:i=j
  · subst e
    rw [hq] at hj;cases hj
    rw [if_pos rfl,if_pos (by omega)]
    exact ⟨a,b,d,rfl⟩
  · rw [if_neg e];exact h.2 j q' hj
def Base(o:List (List Int)):Prop:=∀ x∈o,∃ g s,x=[g,1,s,0]
theorem base_outL(ns ts:List Int)(mo:Int)(N n:Nat):Base (outL ns ts mo N n):=fun x hx=>by
  unfold outL at hx
  obtain ⟨g,hg,hx⟩:=List.mem_flatMap.1 hx
  unfold outG at hx
  split at hx
  · simp at hx
  · simp at hx;exact ⟨_,_,hx⟩
theorem mid_at{qs:List Int}{o:List (List Int)}{i j:Nat}(hi:i≤o.length):(midL qs o i)[j]? = if j<i then (o[j]?).map (finR qs (pts3 o)) else o[j]? := by
  unfold midL
  by_cases h:j<i
  · rw [if_pos h,List.getElem?_append_left (by rw [List.length_map,List.length_take];omega),List.getElem?_map,List.getElem?_take,if_pos h]
  · rw [if_neg h,List.getElem?_append_right (by rw [List.length_map,List.length_take];omega),List.length_map,List.length_take,List.getElem?_drop]
    congr 1;omega
theorem mid_len{qs:List Int}{o:List (List Int)}{i:Nat}(hi:i≤o.length):(midL qs o i).length=o.length:=by
  unfold midL;rw [List.length_append,List.length_map,List.length_take,List.length_drop];omega
theorem mid_pt{qs:List Int}{o:List (List Int)}{i:Nat}(hb:Base o)(hi:i≤o.length):Pt (pts3 o) (midL qs o i):=by
  refine ⟨by rw [mid_len hi,List.length_map],fun j q hj => ?_⟩
  rw [mid_at hi]
  rw [List.getElem?_map] at hj
  cases ho:o[j]? with
  | none=>rw [ho] at hj;cases hj
  | some x =>
    rw [ho] at hj
    obtain ⟨g,s,rfl⟩:=hb x (List.mem_of_getElem? ho)
    simp at hj
    subst hj
    split
    · exact ⟨_,_,_,rfl⟩
    · exact ⟨_,_,_,rfl⟩
theorem mid_zero(qs:List Int)(o:List (List Int)):midL qs o 0=o:=by simp [midL]
theorem mid_end(qs:List Int)(o:List (List Int)):midL qs o o.length=o.map (finR qs (pts3 o)):=by simp [midL]
theorem mid_succ{qs:List Int}{o:List (List Int)}{i:Nat}{x:List Int}(h:o[i]? = some x):midL qs o (i+1)=(midL qs o i).set i (finR qs (pts3 o) x):=by
  have hi:=(List.getElem?_eq_some_iff.1 h).1
  apply List.ext_getElem?
  intro j
  rw [mid_at (by omega),List.getElem?_set,mid_len (by omega),mid_at (by omega)]
  by_cases e:i=j
  · subst e
    rw [if_pos (by omega),if_pos rfl,if_pos hi,h];rfl
  · rw [if_neg e]
    by_cases e2:j<i
    · rw [if_pos (by omega),if_pos e2]
    · rw [if_neg (by omega),if_neg e2]

section
variable {qs:List Int} {o:List (List Int)}
theorem nat_inner(hb:Base o)(ho:o.length≤31){i:Nat}{g s:Int}(hx:o[i]? = some [g,1,s,0]) :
    LoopOK Tryz.prog 0 (sub (cd Tryz.f22) [1,1,1,1,1,1,1,0,1,0,0,1,1,0,0,1,0,1,0,0]) (nat_S3 qs o i (midL qs o i) 0 (midL qs o i).length ((midL qs o i).flatten.map intP)) (.exit 7)
      (nat_S3 qs o i (midL qs o i) o.length ((midL qs o i).set i [g,rkOf (pts3 o) s o.length,s,0]).length (((midL qs o i).set i [g,rkOf (pts3 o) s o.length,s,0]).flatten.map intP)):=by
  have hi:=(List.getElem?_eq_some_iff.1 hx).1
  have hml:(midL qs o i).length=o.length:=mid_len (by omega)
  have hpt:Pt (pts3 o) (midL qs o i):=mid_pt hb (by omega)
  have hpi:(pts3 o)[i]? = some s:=by rw [List.getElem?_map,hx];rfl
  have hmi:(midL qs o i)[i]? = some [g,1,s,0]:=by rw [mid_at (by omega),if_neg (by omega),hx]
  have e0:(midL qs o i).set i [g,rkOf (pts3 o) s 0,s,0]=midL qs o i:=by
    rw [rkOf_zero]
    obtain ⟨h1,h2⟩:=List.getElem?_eq_some_iff.1 hmi
    rw [← h2];exact List.set_getElem_self h1
  have:=LoopOK.count (P:=Tryz.prog) (k:=0) (b:=sub (cd Tryz.f22) [1,1,1,1,1,1,1,0,1,0,0,1,1,0,0,1,0,1,0,0]) (e := .exit 7) (R:=nat_S3 qs o i (midL qs o i) o.length ((midL qs o i).set i [g,rkOf (pts3 o) s o.length,s,0]).length (((midL qs o i).set i [g,rkOf (pts3 o) s o.length,s,0]).flatten.map intP)) o.length
    (fun j=>nat_S3 qs o i (midL qs o i) j ((midL qs o i).set i [g,rkOf (pts3 o) s j,s,0]).length (((midL qs o i).set i [g,rkOf (pts3 o) s j,s,0]).flatten.map intP)) (fun j hj => ?_) (nat_L3_p2 (by rw [hml];omega)) (by simp)
  · rw [e0] at this;exact this
  · have hr:Pt (pts3 o) ((midL qs o i).set i [g,rkOf (pts3 o) s j,s,0]):=hpt.set hpi
    obtain ⟨q,hq⟩:∃ q,(pts3 o)[j]? = some q:=⟨_,List.getElem?_eq_getElem (by rw [List.length_map];omega)⟩
    obtain ⟨a,b,d,hrj⟩:=hr.2 j q hq
    have hri:((midL qs o i).set i [g,rkOf (pts3 o) s j,s,0])[i]? = some [g,rkOf (pts3 o) s j,s,0]:=by
      rw [List.getElem?_set,if_pos rfl,if_pos (by omega)]
    have hbd:=rkOf_bd (pts3 o) s j
    have hsucc:=rkOf_succ (v:=s) hq
    by_cases hlt:s<q
    · rw [if_pos hlt] at hsucc
      refine nat_L3_p0 (r':=(midL qs o i).set i [g,rkOf (pts3 o) s (j+1),s,0]) (by rw [hml];omega) hrj hr.uni hri hlt (by unfold inR;omega) ?_ (inR_nat (by omega)) rfl (by rw [List.length_set,List.length_set]) ?_
      · rw [List.length_map,fl_len hr.uni,List.length_set,hml];omega
      · rw [fl_setf hr.uni hri (by decide),List.set_set,hsucc];rfl
    · rw [if_neg hlt] at hsucc
      rw [hsucc]
      exact nat_L3_p1 (by rw [hml];omega) hrj hr.uni hri (by omega) (inR_nat (by omega)) rfl

theorem nat_outer(hb:Base o)(ho:o.length≤31)(hqs:qs.length≤31):LoopOK Tryz.prog 0 (sub (cd Tryz.f22) [1,1,1,1,1,1,1,0,1,0,0]) (nat_S2 qs o 0 o.length (o.flatten.map intP)) (.exit 5)
    (nat_S2 qs o o.length (o.map (finR qs (pts3 o))).length ((o.map (finR qs (pts3 o))).flatten.map intP)):=by
  have:=LoopOK.count (P:=Tryz.prog) (k:=0) (b:=sub (cd Tryz.f22) [1,1,1,1,1,1,1,0,1,0,0]) (e := .exit 5) (R:=nat_S2 qs o o.length (o.map (finR qs (pts3 o))).length ((o.map (finR qs (pts3 o))).flatten.map intP)) o.length
    (fun i=>nat_S2 qs o i (midL qs o i).length ((midL qs o i).flatten.map intP)) (fun i hi => ?_) (by rw [mid_end];exact nat_L2_p2 (by omega)) (by simp)
  · rw [mid_zero] at this;exact this
  · obtain ⟨g,s,hgs⟩:=hb o[i] (List.getElem_mem hi)
    have hx:o[i]? = some [g,1,s,0]:=by rw [List.getElem?_eq_getElem hi,hgs]
    have hL:=nat_inner (qs:=qs) hb ho hx
    have hml:(midL qs o i).length=o.length:=mid_len (by omega)
    have hpt:Pt (pts3 o) (midL qs o i):=mid_pt hb (by omega)
    have hpi:(pts3 o)[i]? = some s:=by rw [List.getElem?_map,hx];rfl
    have hr:Pt (pts3 o) ((midL qs o i).set i [g,rkOf (pts3 o) s o.length,s,0]):=hpt.set hpi
    have hri:((midL qs o i).set i [g,rkOf (pts3 o) s o.length,s,0])[i]? = some [g,rkOf (pts3 o) s o.length,s,0]:=by
      rw [List.getElem?_set,if_pos rfl,if_pos (by omega)]
    have hbd:=rkOf_bd (pts3 o) s o.length
    have hpl:(pts3 o).length=o.length:=List.length_map _
    have efin:midL qs o (i+1)=(midL qs o i).set i [g,rkOf (pts3 o) s o.length,s,qtOf qs (rkOf (pts3 o) s o.length)]:=by
      rw [mid_succ hx];unfold finR;rw [hpl];rfl
    by_cases hle:rkOf (pts3 o) s o.length≤(qs.length:Int)
    · have hq:qs[(rkOf (pts3 o) s o.length-1).toNat]? = some (qtOf qs (rkOf (pts3 o) s o.length)):=by
        unfold qtOf
        rw [if_pos hle,List.getD_eq_getElem?_getD,List.getElem?_eq_getElem (by omega)];rfl
      refine nat_L2_p0 (by omega) hL hri hr.uni hle (by unfold inR;omega) hq (by omega) ?_ (inR_nat (by omega)) rfl (by rw [mid_len (by omega),List.length_set,hml]) ?_
      · rw [List.length_map,fl_len hr.uni,List.length_set,hml];omega
      · rw [fl_setf hr.uni hri (by decide),List.set_set,efin];rfl
    · have hq:qtOf qs (rkOf (pts3 o) s o.length)=0:=by unfold qtOf;rw [if_neg hle]
      rw [hq] at efin
      refine nat_L2_p1 (by omega) hL hri hr.uni (by omega) (inR_nat (by omega)) rfl (by rw [mid_len (by omega),List.length_set,hml]) (by rw [efin])
end

def nationsM(c:KL.Cup)(ns:List Int)(mo:Int)(qs:List Int):List (List Int):=natL qs (outL ns (KL.totalsM c) mo (KL.totalsM c).length 31)
def natE(c:KL.Cup)(ns:List Int)(mo:Int)(qs:List Int):Int :=
  if KL.checkP c≠0 then KL.checkP c else if (ns.length:Int)≠c.sk∨within (qs.length:Int) 1 31=false then 2 else
  if (ns.all fun x=>within x 0 30)=false∨within mo 1 12=false∨(qs.all fun x=>within x 0 20)=false then 3 else if KL.fallsB qs=false then 4 else 0
theorem nodup_le:∀ {S T:List Int},S.Nodup→(∀ g∈S,g∈T)→S.length≤T.length
  | [],_,_,_=>Nat.zero_le _
  | a::S,T,h,hs=>by
    obtain ⟨h1,h2⟩:=List.nodup_cons.1 h
    have ha:=hs a (List.mem_cons_self ..)
    have:=nodup_le (T:=T.erase a) h2 (fun g hg=>(List.mem_erase_of_ne (fun e=>h1 (by rw [← e];exact hg))).2 (hs g (List.mem_cons_of_mem _ hg)))
    rw [List.length_erase_of_mem ha] at this
    have:0<T.length:=List.length_pos_of_mem ha
    rw [List.length_cons]
    omega
theorem outL_few(ns ts:List Int)(mo:Int)(N n:Nat)(h:(ns.zip ts).length≤12):(outL ns ts mo N n).length≤12:=by
  have key:∀ n,∃ S:List Int,S.Nodup∧S.length=(outL ns ts mo N n).length∧(∀ g∈S,g∈(ns.zip ts).map (·.1))∧∀ g∈S,g<n:=by
    intro n
    induction n with
    | zero=>exact ⟨[],.nil,rfl,by simp,by simp⟩
    | succ n ih =>
      obtain ⟨S,h1,h2,h3,h4⟩:=ih
      rw [outL_succ]
      unfold outG
      split
      · exact ⟨S,h1,by simpa using h2,h3,fun g hg=>by have:=h4 g hg;omega⟩
      · rename_i hg
        refine ⟨(n:Int)::S,List.nodup_cons.2 ⟨fun hin=>by have:=h4 _ hin;omega,h1⟩,by simp [h2],fun g hg' => ?_,fun g hg' => ?_⟩
        · rcases List.mem_cons.1 hg' with rfl | hg'
          · obtain ⟨x,hx⟩:=List.exists_mem_of_ne_nil _ hg
            unfold grp at hx
            obtain ⟨p,hp,hx⟩:=List.mem_filterMap.1 hx
            split at hx
            · rename_i he
              exact List.mem_map.2 ⟨p,List.mem_of_mem_take hp,he⟩
            · cases hx
          · exact h3 g hg'
        · rcases List.mem_cons.1 hg' with rfl | hg'
          · omega
          · have:=h4 g hg';omega
  obtain ⟨S,h1,h2,h3,_⟩:=key n
  rw [← h2]
  have:=nodup_le h1 h3
  rw [List.length_map] at this
  omega
theorem nat_main{c:KL.Cup}{ns:List Int}{mo:Int}{qs:List Int}(hV:KL.Valid c)(hl:(ns.length:Int)=c.sk)(hns:∀ k∈ns,0≤k∧k≤30)(hmo:1≤mo∧mo≤12)(hqs:qs.length≤31)(htl:(KL.totalsM c).length=c.sk.toNat)(hts:∀ x∈KL.totalsM c,0≤x∧x≤1000000) :
    CodeOK Tryz.prog 0 (sub (cd Tryz.f22) [1,1,1]) (stT c ns mo qs) .ret ⟨fr 161 [(8,(.p (.sl (nationsM c ns mo qs).length ((nationsM c ns mo qs).flatten.map intP)))),(9,(.p (intP 0)))],[]⟩:=by
  have s1:=hV.sk1
  have s2:=hV.sk2
  refine CodeR.ok (by kernel_rfl) ?_
  rw [show sub (cd Tryz.f22) [1,1,1] = .seq (sub (cd Tryz.f22) [1,1,1,0]) (.seq (.seq (sub (cd Tryz.f22) [1,1,1,1,0,0]) (sub (cd Tryz.f22) [1,1,1,1,0,1])) (.seq (sub (cd Tryz.f22) [1,1,1,1,1,0]) (.seq (.seq (sub (cd Tryz.f22) [1,1,1,1,1,1,0,0]) (sub (cd Tryz.f22) [1,1,1,1,1,1,0,1])) (sub (cd Tryz.f22) [1,1,1,1,1,1,1])))) from by kernel_rfl]
  have htl':ns.length=(KL.totalsM c).length:=by omega
  have hw:∀ k∈ns,(Lit.int .i64 k).wf=true:=fun k hk=>by
    have:=hns k hk
    have h:=wf_int (n:=k.toNat) (by omega)
    rwa [Int.toNat_of_nonneg this.1] at h
  refine CodeR.seq (r10 (ts:=KL.totalsM c)) (CodeR.seq (CodeR.seq (CodeR.ofM (f':=fun mv=>stB ns mo qs mv (KL.totalsM c) 0) fun mb=>n11_p0 hV) (nat_loop1 htl' hw (by omega))) (CodeR.seq (CodeR.ofM (f':=fun mv=>⟨fr 161 [(1,(.p (intsP ns))),(2,(.p (intP mo))),(3,(.p (intsP qs))),(12,(.p mv)),(15,(.p nilS))],[]⟩) fun mb=>n16_p0) (CodeR.seq (CodeR.seq ?_ (nat_loop2 (qs:=qs) htl' (by omega) hmo hts)) ?_)))
  · refine (CodeR.ofM (f':=fun mv=>stF ns mo qs mv 0 []) fun mb=>n17_p0).mono (fun _ _ h=>h) (fun st R h => ?_)
    obtain ⟨mb,es,cl,L,h1,rfl,h3,h4⟩:=h
    exact ⟨mb,es,cl,L,h1,by simp [mapR],fun e he _=>by simp [mapR];exact .inr ⟨e,he,rfl⟩,h3,h4⟩
  · refine CodeR.of fun st R h=>⟨_,rfl,?_⟩
    obtain ⟨mb,es,cl,L,rfl,_⟩:=h
    have hol:=outL_len ns (KL.totalsM c) mo (KL.totalsM c).length 31
    have hb:=base_outL ns (KL.totalsM c) mo (KL.totalsM c).length 31
    have hlen:(outL ns (KL.totalsM c) mo (KL.totalsM c).length 31).length≤12:=outL_few _ _ _ _ _ (by rw [List.length_zip];omega)
    refine CodeOK.pre (g:=⟨[1,2,12,85],[0],[],[]⟩) (st1:=⟨fr 161 [(3,(.p (intsP qs))),(15,(.own 0))],[some (.row 40 (outL ns (KL.totalsM c) mo (KL.totalsM c).length 31).length ((outL ns (KL.totalsM c) mo (KL.totalsM c).length 31).flatten.map intP))]⟩) (by kernel_rfl) ?_
    exact n25_p0 (nat_outer hb hol hqs) (fun x hx=>by
      obtain ⟨y,hy,rfl⟩:=List.mem_map.1 hx
      rfl) (by rw [List.length_map];omega)
end KV
end Go.Proofs
end
namespace Go.Proofs
namespace KV
section
open KL
theorem zL6q0:((0:Int) != (0:Int))=false:=by first | decide | simp
theorem zL6q1:((0:Int) == (0:Int))=true:=by first | decide | simp
theorem zL6q2:((3:Int) == (3:Int))=true:=by first | decide | simp
theorem zL6q3:((1:Int) == (1:Int))=true:=by first | decide | simp
abbrev threeC:Cup:=⟨3,3,2,[10,6,4],[[1,2,3],[3,1,1]]⟩
abbrev twoC:Cup:=⟨2,4,4,[10,4],[[1,2],[1,2],[1,2]]⟩
theorem three_p0{base:Nat}:FV Tryz.prog 85 [] base (.p (.agg [(intP 3),(intP 3),(intP 2),(.sl 3 [(intP 10),(intP 6),(intP 4)]),(.sl 2 [(.sl 3 [(intP 1),(intP 2),(intP 3)]),(.sl 3 [(intP 3),(intP 1),(intP 1)])])])) []:=by
  exact FV.frz (FMM.fin (k:=0) (g:=⟨[],[],[1,4],[]⟩) rfl Tryz.func85 rfl (o:=[]) (l:=[]) (by kernel_rfl) (gn)) (by kernel_rfl)
theorem two_p0{base:Nat}:FV Tryz.prog 86 [] base (.p (.agg [(intP 2),(intP 4),(intP 4),(.sl 2 [(intP 10),(intP 4)]),(.sl 3 [(.sl 2 [(intP 1),(intP 2)]),(.sl 2 [(intP 1),(intP 2)]),(.sl 2 [(intP 1),(intP 2)])])])) []:=by
  exact FV.frz (FMM.fin (k:=0) (g:=⟨[],[],[1,5],[]⟩) rfl Tryz.func86 rfl (o:=[]) (l:=[]) (by kernel_rfl) (gn)) (by kernel_rfl)
theorem awake_p0(h34_0:∀ base:Nat,FV Tryz.prog 34 [(.p (.agg [(intP 3),(intP 3),(intP 2),(.sl 3 [(intP 10),(intP 6),(intP 4)]),(.sl 2 [(.sl 3 [(intP 1),(intP 2),(intP 3)]),(.sl 3 [(intP 3),(intP 1),(intP 1)])])]))] base (.tup [(.p (.sl 3 [(intP 1),(intP 1),(intP 14),(intP 1),(intP 0),(intP 2),(intP 14),(intP 1),(intP 2),(intP 3),(intP 12),(intP 1)])),(.p (intP 0))]) [])(h37_1:∀ base:Nat,FV Tryz.prog 37 [(.p (.agg [(intP 3),(intP 3),(intP 2),(.sl 3 [(intP 10),(intP 6),(intP 4)]),(.sl 2 [(.sl 3 [(intP 1),(intP 2),(intP 3)]),(.sl 3 [(intP 3),(intP 1),(intP 1)])])]))] base (.tup [(.p (.sl 3 [(intP 0),(intP 1),(intP 2)])),(.p (intP 0))]) [])(h38_2:∀ base:Nat,FV Tryz.prog 38 [(.p (.agg [(intP 3),(intP 3),(intP 2),(.sl 3 [(intP 10),(intP 6),(intP 4)]),(.sl 2 [(.sl 3 [(intP 1),(intP 2),(intP 3)]),(.sl 3 [(intP 3),(intP 1),(intP 1)])])]))] base (.tup [(.p (.sl 0 [])),(.p (intP 0))]) [])(h55_3:∀ base:Nat,FV Tryz.prog 55 [(.p (.agg [(intP 3),(intP 3),(intP 2),(.sl 3 [(intP 10),(intP 6),(intP 4)]),(.sl 2 [(.sl 3 [(intP 1),(intP 2),(intP 3)]),(.sl 3 [(intP 3),(intP 1),(intP 1)])])])),(.p (intP 1))] base (.tup [(.p (intP 3)),(.p (.sl 3 [(intP 1),(intP 0),(intP 2)])),(.p (intP 0))]) [])(h39_4:∀ base:Nat,FV Tryz.prog 39 [(.p (.sl 3 [(intP 1),(intP 1),(intP 14),(intP 1),(intP 0),(intP 2),(intP 14),(intP 1),(intP 2),(intP 3),(intP 12),(intP 1)])),(.p (.sl 3 [(intP 1),(intP 1),(intP 14),(intP 1),(intP 0),(intP 2),(intP 14),(intP 1),(intP 2),(intP 3),(intP 12),(intP 1)]))] base (.p (blP true)) [])(h25_5:∀ base:Nat,FV Tryz.prog 25 [(.p (.sl 3 [(intP 0),(intP 1),(intP 2)])),(.p (.sl 3 [(intP 0),(intP 1),(intP 2)]))] base (.p (blP true)) [])(h73_6:∀ base:Nat,FV Tryz.prog 73 [(.p (.agg [(intP 2),(intP 4),(intP 4),(.sl 2 [(intP 10),(intP 4)]),(.sl 3 [(.sl 2 [(intP 1),(intP 2)]),(.sl 2 [(intP 1),(intP 2)]),(.sl 2 [(intP 1),(intP 2)])])]))] base (.tup [(.p (intP 3)),(.p (intP 0)),(.p (intP 0))]) [])(h56_7:∀ base:Nat,FV Tryz.prog 56 [(.p (.agg [(intP 3),(intP 3),(intP 2),(.sl 3 [(intP 10),(intP 6),(intP 4)]),(.sl 2 [(.sl 3 [(intP 1),(intP 2),(intP 3)]),(.sl 3 [(intP 3),(intP 1),(intP 1)])])])),(.p (intP 2))] base (.tup [(.p (.sl 3 [(intP 2),(intP 3),(intP 1)])),(.p (intP 0))]) [])(h22_8:∀ base:Nat,FV Tryz.prog 22 [(.p (.agg [(intP 3),(intP 3),(intP 2),(.sl 3 [(intP 10),(intP 6),(intP 4)]),(.sl 2 [(.sl 3 [(intP 1),(intP 2),(intP 3)]),(.sl 3 [(intP 3),(intP 1),(intP 1)])])])),(.p (.sl 3 [(intP 5),(intP 5),(intP 9)])),(.p (intP 1)),(.p (.sl 2 [(intP 4),(intP 3)]))] base (.tup [(.p (.sl 2 [(intP 5),(intP 1),(intP 14),(intP 4),(intP 9),(intP 2),(intP 12),(intP 3)])),(.p (intP 0))]) [])(h87_9:∀ base:Nat,FV Tryz.prog 87 [(.p (.sl 2 [(intP 5),(intP 1),(intP 14),(intP 4),(intP 9),(intP 2),(intP 12),(intP 3)])),(.p (.sl 2 [(intP 5),(intP 1),(intP 14),(intP 4),(intP 9),(intP 2),(intP 12),(intP 3)]))] base (.p (blP true)) []){base:Nat}:FV Tryz.prog 19 [] base (.p (blP true)) []:=by
  exact FV.fin Tryz.func19 rfl (o:=[.c (.p (.agg [(intP 3),(intP 3),(intP 2),(.sl 3 [(intP 10),(intP 6),(intP 4)]),(.sl 2 [(.sl 3 [(intP 1),(intP 2),(intP 3)]),(.sl 3 [(intP 3),(intP 1),(intP 1)])])])) [],.c (.tup [(.p (.sl 3 [(intP 1),(intP 1),(intP 14),(intP 1),(intP 0),(intP 2),(intP 14),(intP 1),(intP 2),(intP 3),(intP 12),(intP 1)])),(.p (intP 0))]) [],.c (.p (.agg [(intP 3),(intP 3),(intP 2),(.sl 3 [(intP 10),(intP 6),(intP 4)]),(.sl 2 [(.sl 3 [(intP 1),(intP 2),(intP 3)]),(.sl 3 [(intP 3),(intP 1),(intP 1)])])])) [],.c (.tup [(.p (.sl 3 [(intP 0),(intP 1),(intP 2)])),(.p (intP 0))]) [],.c (.p (.agg [(intP 3),(intP 3),(intP 2),(.sl 3 [(intP 10),(intP 6),(intP 4)]),(.sl 2 [(.sl 3 [(intP 1),(intP 2),(intP 3)]),(.sl 3 [(intP 3),(intP 1),(intP 1)])])])) [],.c (.tup [(.p (.sl 0 [])),(.p (intP 0))]) [],.c (.p (.agg [(intP 3),(intP 3),(intP 2),(.sl 3 [(intP 10),(intP 6),(intP 4)]),(.sl 2 [(.sl 3 [(intP 1),(intP 2),(intP 3)]),(.sl 3 [(intP 3),(intP 1),(intP 1)])])])) [],.c (.tup [(.p (intP 3)),(.p (.sl 3 [(intP 1),(intP 0),(intP 2)])),(.p (intP 0))]) [],bF,bF,bF,bF,bF,bF,bF,bF,bF,bF,bF,bF,bF,bF,bF,.c (.p (blP true)) [],bF,bF,bF,bF,bF,.c (.p (blP true)) [],bF,bF,bF,bF,bF,bF,bF,bF,bF,bF,.c (.p (.agg [(intP 2),(intP 4),(intP 4),(.sl 2 [(intP 10),(intP 4)]),(.sl 3 [(.sl 2 [(intP 1),(intP 2)]),(.sl 2 [(intP 1),(intP 2)]),(.sl 2 [(intP 1),(intP 2)])])])) [],.c (.tup [(.p (intP 3)),(.p (intP 0)),(.p (intP 0))]) [],.c (.p (.agg [(intP 3),(intP 3),(intP 2),(.sl 3 [(intP 10),(intP 6),(intP 4)]),(.sl 2 [(.sl 3 [(intP 1),(intP 2),(intP 3)]),(.sl 3 [(intP 3),(intP 1),(intP 1)])])])) [],.c (.tup [(.p (.sl 3 [(intP 2),(intP 3),(intP 1)])),(.p (intP 0))]) [],.c (.p (.agg [(intP 3),(intP 3),(intP 2),(.sl 3 [(intP 10),(intP 6),(intP 4)]),(.sl 2 [(.sl 3 [(intP 1),(intP 2),(intP 3)]),(.sl 3 [(intP 3),(intP 1),(intP 1)])])])) [],.c (.tup [(.p (.sl 2 [(intP 5),(intP 1),(intP 14),(intP 4),(intP 9),(intP 2),(intP 12),(intP 3)])),(.p (intP 0))]) [(2,.dead),(3,.dead)],bT,bT,bT,bT,bT,bT,bT,bT,bT,bT,bT,bT,bT,bT,bT,bT,bT,bT,bT,.x (intP 1),bT,bT,bT,bT,bT,bT,bT,.c (.p (blP true)) [],bT]) (l:=[_,FC Tryz.prog 87 [(.p (.sl 2 [(intP 5),(intP 1),(intP 14),(intP 4),(intP 9),(intP 2),(intP 12),(intP 3)])),(.own 4)] [(4,(.row 40 2 [(intP 5),(intP 1),(intP 14),(intP 4),(intP 9),(intP 2),(intP 12),(intP 3)]))] 5 (.p (blP true)) [],_,_,_,_,_,_,_,[(intP 2),(intP 3),(intP 1)][2]? = some (intP 1),_,0≤(2:Int)∧(2:Int)<(3:Int)∧2<[(intP 2),(intP 3),(intP 1)].length,_,_,_,_,_,_,_,_,_,_,_,_,_,_,_,_,_,_,FC Tryz.prog 22 [(.p (.agg [(intP 3),(intP 3),(intP 2),(.sl 3 [(intP 10),(intP 6),(intP 4)]),(.sl 2 [(.sl 3 [(intP 1),(intP 2),(intP 3)]),(.sl 3 [(intP 3),(intP 1),(intP 1)])])])),(.own 2),(.p (intP 1)),(.own 3)] [(2,(.row 3 3 [(intP 5),(intP 5),(intP 9)])),(3,(.row 3 2 [(intP 4),(intP 3)]))] 4 (.tup [(.p (.sl 2 [(intP 5),(intP 1),(intP 14),(intP 4),(intP 9),(intP 2),(intP 12),(intP 3)])),(.p (intP 0))]) [(2,.dead),(3,.dead)],FC Tryz.prog 85 [] [] 2 (.p (.agg [(intP 3),(intP 3),(intP 2),(.sl 3 [(intP 10),(intP 6),(intP 4)]),(.sl 2 [(.sl 3 [(intP 1),(intP 2),(intP 3)]),(.sl 3 [(intP 3),(intP 1),(intP 1)])])])) [],FC Tryz.prog 56 [(.p (.agg [(intP 3),(intP 3),(intP 2),(.sl 3 [(intP 10),(intP 6),(intP 4)]),(.sl 2 [(.sl 3 [(intP 1),(intP 2),(intP 3)]),(.sl 3 [(intP 3),(intP 1),(intP 1)])])])),(.p (intP 2))] [] 2 (.tup [(.p (.sl 3 [(intP 2),(intP 3),(intP 1)])),(.p (intP 0))]) [],FC Tryz.prog 85 [] [] 2 (.p (.agg [(intP 3),(intP 3),(intP 2),(.sl 3 [(intP 10),(intP 6),(intP 4)]),(.sl 2 [(.sl 3 [(intP 1),(intP 2),(intP 3)]),(.sl 3 [(intP 3),(intP 1),(intP 1)])])])) [],FC Tryz.prog 73 [(.p (.agg [(intP 2),(intP 4),(intP 4),(.sl 2 [(intP 10),(intP 4)]),(.sl 3 [(.sl 2 [(intP 1),(intP 2)]),(.sl 2 [(intP 1),(intP 2)]),(.sl 2 [(intP 1),(intP 2)])])]))] [] 2 (.tup [(.p (intP 3)),(.p (intP 0)),(.p (intP 0))]) [],FC Tryz.prog 86 [] [] 2 (.p (.agg [(intP 2),(intP 4),(intP 4),(.sl 2 [(intP 10),(intP 4)]),(.sl 3 [(.sl 2 [(intP 1),(intP 2)]),(.sl 2 [(intP 1),(intP 2)]),(.sl 2 [(intP 1),(intP 2)])])])) [],((3:Int) != (3:Int))=false,_,_,_,false=false,false=false,false=false,false=false,false=false,false=false,FC Tryz.prog 25 [(.p (.sl 3 [(intP 0),(intP 1),(intP 2)])),(.own 1)] [(1,(.row 3 3 [(intP 0),(intP 1),(intP 2)]))] 2 (.p (blP true)) [],false=false,false=false,false=false,_,_,FC Tryz.prog 39 [(.p (.sl 3 [(intP 1),(intP 1),(intP 14),(intP 1),(intP 0),(intP 2),(intP 14),(intP 1),(intP 2),(intP 3),(intP 12),(intP 1)])),(.own 0)] [(0,(.row 61 3 [(intP 1),(intP 1),(intP 14),(intP 1),(intP 0),(intP 2),(intP 14),(intP 1),(intP 2),(intP 3),(intP 12),(intP 1)]))] 1 (.p (blP true)) [],_,_,_,_,_,_,_,_,_,_,_,_,_,_,_,FC Tryz.prog 55 [(.p (.agg [(intP 3),(intP 3),(intP 2),(.sl 3 [(intP 10),(intP 6),(intP 4)]),(.sl 2 [(.sl 3 [(intP 1),(intP 2),(intP 3)]),(.sl 3 [(intP 3),(intP 1),(intP 1)])])])),(.p (intP 1))] [] 0 (.tup [(.p (intP 3)),(.p (.sl 3 [(intP 1),(intP 0),(intP 2)])),(.p (intP 0))]) [],FC Tryz.prog 85 [] [] 0 (.p (.agg [(intP 3),(intP 3),(intP 2),(.sl 3 [(intP 10),(intP 6),(intP 4)]),(.sl 2 [(.sl 3 [(intP 1),(intP 2),(intP 3)]),(.sl 3 [(intP 3),(intP 1),(intP 1)])])])) [],FC Tryz.prog 38 [(.p (.agg [(intP 3),(intP 3),(intP 2),(.sl 3 [(intP 10),(intP 6),(intP 4)]),(.sl 2 [(.sl 3 [(intP 1),(intP 2),(intP 3)]),(.sl 3 [(intP 3),(intP 1),(intP 1)])])]))] [] 0 (.tup [(.p (.sl 0 [])),(.p (intP 0))]) [],FC Tryz.prog 85 [] [] 0 (.p (.agg [(intP 3),(intP 3),(intP 2),(.sl 3 [(intP 10),(intP 6),(intP 4)]),(.sl 2 [(.sl 3 [(intP 1),(intP 2),(intP 3)]),(.sl 3 [(intP 3),(intP 1),(intP 1)])])])) [],FC Tryz.prog 37 [(.p (.agg [(intP 3),(intP 3),(intP 2),(.sl 3 [(intP 10),(intP 6),(intP 4)]),(.sl 2 [(.sl 3 [(intP 1),(intP 2),(intP 3)]),(.sl 3 [(intP 3),(intP 1),(intP 1)])])]))] [] 0 (.tup [(.p (.sl 3 [(intP 0),(intP 1),(intP 2)])),(.p (intP 0))]) [],FC Tryz.prog 85 [] [] 0 (.p (.agg [(intP 3),(intP 3),(intP 2),(.sl 3 [(intP 10),(intP 6),(intP 4)]),(.sl 2 [(.sl 3 [(intP 1),(intP 2),(intP 3)]),(.sl 3 [(intP 3),(intP 1),(intP 1)])])])) [],FC Tryz.prog 34 [(.p (.agg [(intP 3),(intP 3),(intP 2),(.sl 3 [(intP 10),(intP 6),(intP 4)]),(.sl 2 [(.sl 3 [(intP 1),(intP 2),(intP 3)]),(.sl 3 [(intP 3),(intP 1),(intP 1)])])]))] [] 0 (.tup [(.p (.sl 3 [(intP 1),(intP 1),(intP 14),(intP 1),(intP 0),(intP 2),(intP 14),(intP 1),(intP 2),(intP 3),(intP 12),(intP 1)])),(.p (intP 0))]) [],FC Tryz.prog 85 [] [] 0 (.p (.agg [(intP 3),(intP 3),(intP 2),(.sl 3 [(intP 10),(intP 6),(intP 4)]),(.sl 2 [(.sl 3 [(intP 1),(intP 2),(intP 3)]),(.sl 3 [(intP 3),(intP 1),(intP 1)])])])) []]) (by kernel_rfl) (gc zL6q3 (gc (fv (h87_9 _)) (gc zL6q3 (gc zL6q3 (gc zL6q3 (gc zL6q3 (gc zL6q3 (gc zL6q2 (gc zL6q2 (gc rfl (gc zL6q2 (gc (by first | decide | simp) (gc zL6q2 (gc zL6q2 (gc zL6q1 (gc zL6q1 (gc zL6q1 (gc zL6q1 (gc zL6q2 (gc zL6q2 (gc zL6q2 (gc zL6q1 (gc zL6q1 (gc zL6q1 (gc zL6q1 (gc zL6q1 (gc zL6q1 (gc zL6q1 (gc zL6q1 (gc zL6q1 (gc (FV.close (ids:=[2,3]) (args':=[(.p (.agg [(intP 3),(intP 3),(intP 2),(.sl 3 [(intP 10),(intP 6),(intP 4)]),(.sl 2 [(.sl 3 [(intP 1),(intP 2),(intP 3)]),(.sl 3 [(intP 3),(intP 1),(intP 1)])])])),(.p (.sl 3 [(intP 5),(intP 5),(intP 9)])),(.p (intP 1)),(.p (.sl 2 [(intP 4),(intP 3)]))]) (h22_8 _) (by kernel_rfl)) (gc (FV.fc three_p0 (by kernel_rfl)) (gc (FV.fc (h56_7 _) rfl) (gc (FV.fc three_p0 (by kernel_rfl)) (gc (FV.fc (h73_6 _) rfl) (gc (FV.fc two_p0 (by kernel_rfl)) (gc (by first | decide | simp) (gc zL6q0 (gc zL6q0 (gc zL6q0 (gc rfl (gc rfl (gc rfl (gc rfl (gc rfl (gc rfl (gc (fv (h25_5 _)) (gc rfl (gc rfl (gc rfl (gc zL6q0 (gc zL6q0 (gc (fv (h39_4 _)) (gc zL6q0 (gc zL6q0 (gc zL6q0 (gc zL6q0 (gc zL6q0 (gc zL6q0 (gc zL6q0 (gc zL6q0 (gc zL6q0 (gc zL6q0 (gc zL6q0 (gc zL6q0 (gc zL6q0 (gc zL6q0 (gc zL6q0 (gc (FV.fc (h55_3 _) rfl) (gc (FV.fc three_p0 (by kernel_rfl)) (gc (FV.fc (h38_2 _) rfl) (gc (FV.fc three_p0 (by kernel_rfl)) (gc (FV.fc (h37_1 _) rfl) (gc (FV.fc three_p0 (by kernel_rfl)) (gc (FV.fc (h34_0 _) rfl) (gc (FV.fc three_p0 (by kernel_rfl)) gn))))))))))))))))))))))))))))))))))))))))))))))))))))))))))))))))))))))))))))
end
end KV
end Go.Proofs
section
namespace Go.Proofs
namespace KL
def insI(x:Int):List Int→List Int
  | []=>[x]
  | y::r=>if x≤y then x::y::r else y::insI x r
def sortI:List Int→List Int
  | []=>[]
  | x::r=>insI x (sortI r)
theorem insI_perm(x:Int):∀ l,(insI x l).Perm (x::l)
  | [] => .refl _
  | y::r=>by
    unfold insI
    split
    · exact .refl _
    · exact ((insI_perm x r).cons y).trans (List.Perm.swap x y r)
theorem sortI_perm:∀ l,(sortI l).Perm l
  | [] => .refl _
  | x::r=>(insI_perm x _).trans ((sortI_perm r).cons x)
theorem insI_sorted(x:Int):∀ l,l.Pairwise (· ≤ ·)→(insI x l).Pairwise (· ≤ ·)
  | [],_=>by simp [insI]
  | y::r,h=>by
    obtain ⟨h1,h2⟩:=List.pairwise_cons.1 h
    unfold insI
    split
    · rename_i hx
      exact List.pairwise_cons.2 ⟨fun z hz=>by
        rcases List.mem_cons.1 hz with rfl | hz
        · exact hx
        · have:=h1 z hz;omega,h⟩
    · rename_i hx
      refine List.pairwise_cons.2 ⟨fun z hz => ?_,insI_sorted x r h2⟩
      rcases List.mem_cons.1 ((insI_perm x r).mem_iff.1 hz) with rfl | hz
      · omega
      · exact h1 z hz
theorem sortI_sorted:∀ l,(sortI l).Pairwise (· ≤ ·)
  | [] => .nil
  | x::r=>insI_sorted x _ (sortI_sorted r)
theorem sorted_eq:∀ (a b:List Int),a.Perm b→a.Pairwise (· ≤ ·)→b.Pairwise (· ≤ ·)→a=b
  | [],b,h,_,_=>(List.nil_perm.1 h).symm
  | x::r,[],h,_,_=>absurd h.length_eq (by simp)
  | x::r,y::t,h,ha,hb=>by
    obtain ⟨h1,h2⟩:=List.pairwise_cons.1 ha
    obtain ⟨h3,h4⟩:=List.pairwise_cons.1 hb
    have e:x=y:=by
      have m1:x∈y::t:=h.mem_iff.1 (List.mem_cons_self ..)
      have m2:y∈x::r:=h.mem_iff.2 (List.mem_cons_self ..)
      rcases List.mem_cons.1 m1 with e | m1
      · exact e
      · rcases List.mem_cons.1 m2 with e | m2
        · exact e.symm
        · have:=h1 y m2;have:=h3 x m1;omega
    subst e
    rw [sorted_eq r t (List.Perm.cons_inv h) h2 h4]
theorem mergeSort_eq(l:List Int):l.mergeSort leB=sortI l:=by
  refine sorted_eq _ _ ((List.mergeSort_perm _ _).trans (sortI_perm l).symm) ?_ (sortI_sorted l)
  have:=List.pairwise_mergeSort leB_trans leB_total l
  exact this.imp (fun h=>by simpa [leB] using h)
end KL
namespace KV
open KL
theorem h39(base:Nat):FV Tryz.prog 39 [(.p (.sl 3 [(intP 1),(intP 1),(intP 14),(intP 1),(intP 0),(intP 2),(intP 14),(intP 1),(intP 2),(intP 3),(intP 12),(intP 1)])),(.p (.sl 3 [(intP 1),(intP 1),(intP 14),(intP 1),(intP 0),(intP 2),(intP 14),(intP 1),(intP 2),(intP 3),(intP 12),(intP 1)]))] base (.p (blP true)) [] :=
  eql_ok [[1,1,14,1],[0,2,14,1],[2,3,12,1]] [[1,1,14,1],[0,2,14,1],[2,3,12,1]] (by decide) (by unfold uni;decide) (by unfold uni;decide)
theorem h25(base:Nat):FV Tryz.prog 25 [(.p (.sl 3 [(intP 0),(intP 1),(intP 2)])),(.p (.sl 3 [(intP 0),(intP 1),(intP 2)]))] base (.p (blP true)) []:=eqi_ok [0,1,2] [0,1,2] (by decide)
theorem h87(base:Nat):FV Tryz.prog 87 [(.p (.sl 2 [(intP 5),(intP 1),(intP 14),(intP 4),(intP 9),(intP 2),(intP 12),(intP 3)])),(.p (.sl 2 [(intP 5),(intP 1),(intP 14),(intP 4),(intP 9),(intP 2),(intP 12),(intP 3)]))] base (.p (blP true)) [] :=
  eqn_ok [[5,1,14,4],[9,2,12,3]] [[5,1,14,4],[9,2,12,3]] (by decide) (by unfold uni;decide) (by unfold uni;decide)
theorem countedL_eq(c:Cup)(s:Nat):countedL c s=KL.sortI ((KL.isort (KL.ltC (KL.cntCmp c s)) (KL.idx c.done.length)).take (min c.done.length c.be.toNat)):=by
  unfold countedL
  exact KL.mergeSort_eq _
def totK(c:Cup)(s:Nat):Int:=((KL.sortI ((KL.isort (KL.ltC (KL.cntCmp c s)) (KL.idx c.done.length)).take (min c.done.length c.be.toNat))).map fun i=>scoreAt c i.toNat s).sum
theorem totalM_eq(c:Cup)(s:Nat):totalM c s=totK c s:=by
  unfold totalM totK
  rw [countedL_eq]
def betK(c:Cup)(a b:Nat):Bool:=KL.betterF (totK c a) (totK c b) (placesM c a) (placesM c b)
theorem betS_eq(c:Cup)(a b:Nat):betS c a b=betK c a b:=by
  unfold betS betK
  rw [totalM_eq,totalM_eq]
def rankK(c:Cup)(s:Nat):Int:=1+((KL.oth s c.sk.toNat).countP (fun x=>betK c x s):Nat)
theorem rankM_eq(c:Cup)(s:Nat):rankM c s=rankK c s:=by
  unfold rankM rankK
  simp only [betS_eq]
def canK(c:Cup)(s:Nat):Bool:=rankK (withC c (wonM c s)) s == 1
theorem canM_eq(c:Cup):canM c=canK c:=by
  funext s
  unfold canM canK
  rw [rankM_eq]
set_option maxRecDepth 100000 in
theorem v37:whoM (canM threeC) 3=[0,1,2]:=by
  rw [canM_eq]
  kernel_rfl
theorem clash_no{race:List Int}(h0:∀ x∈race,0≤x)(h:KL.NoClash race):KL.clashR race=false:=(KL.clash_iff race h0).2 h
theorem valid_three:KL.Valid threeC where
  sk1:=by decide
  sk2:=by decide
  ra1:=by decide
  ra2:=by decide
  be1:=by decide
  be2:=by decide
  pt1:=by decide
  pt2:=by decide
  dn:=by decide
  len:=by decide
  pts:=by decide
  rows:=by decide
  falls:=by kernel_rfl
  clash:=by
    show (KL.clashR [1,2,3] || (KL.clashR [3,1,1] || false))=false
    rw [clash_no (by decide) (by unfold KL.NoClash;decide),clash_no (by decide) (by unfold KL.NoClash;decide)]
    rfl
theorem valid_two:KL.Valid twoC where
  sk1:=by decide
  sk2:=by decide
  ra1:=by decide
  ra2:=by decide
  be1:=by decide
  be2:=by decide
  pt1:=by decide
  pt2:=by decide
  dn:=by decide
  len:=by decide
  pts:=by decide
  rows:=by decide
  falls:=by kernel_rfl
  clash:=by
    show (KL.clashR [1,2] || (KL.clashR [1,2] || (KL.clashR [1,2] || false)))=false
    rw [clash_no (by decide) (by unfold KL.NoClash;decide)]
    rfl
theorem h37(base:Nat):FV Tryz.prog 37 [.p (cupP threeC)] base (.tup [.p (intsP [0,1,2]),.p (intP 0)]) []:=by
  have:=canE_ok threeC valid_three (base:=base)
  rwa [show whoM (canM threeC) threeC.sk.toNat=[0,1,2] from v37] at this
theorem v34:tableM threeC=[[1,1,14,1],[0,2,14,1],[2,3,12,1]]:=by
  unfold tableM tabL
  simp only [rankM_eq,totalM_eq]
  kernel_rfl
theorem h34(base:Nat):FV Tryz.prog 34 [.p (cupP threeC)] base (.tup [.p (.sl 3 ([[1,1,14,1],[0,2,14,1],[2,3,12,1]].flatten.map intP)),.p (intP 0)]) []:=by
  have:=table_ok threeC valid_three (base:=base)
  rwa [v34] at this
theorem lastE_three(k:Int)(h:0≤k∧k<3):lastE threeC k=0:=by
  unfold lastE
  rw [named_in valid_three h.1 h.2]
  rfl
def beatK(c:Cup)(o:Nat)(p:Int)(s:Nat)(w:Int):Bool:=betK (withC c [KL.race2 c.sk.toNat o p s w]) o s
theorem beatsM_fun:beatsM=beatK:=by funext c o p s w;unfold beatsM beatK;rw [betS_eq]
def findK(c:Cup)(s:Nat)(pl:Int)(free:List Int):Int:=(KL.oth s c.sk.toNat).foldl (fun fo x=>if fo<0 then (if free.getD x 0=0 then (if beatK c x pl s 1 then fo else (x:Int)) else fo) else fo) (-1)
theorem findM_eq(c:Cup)(s:Nat)(pl:Int)(free:List Int):findM c s pl free=findK c s pl free:=by
  have:findF c s pl free=fun fo x=>if fo<0 then (if free.getD x 0=0 then (if beatK c x pl s 1 then fo else (x:Int)) else fo) else fo:=by
    funext fo x
    unfold findF
    rw [beatsM_fun]
  unfold findM findK
  rw [this]
def fullRK(c:Cup)(s:Nat):Nat→Int→List Int→Option (List Int)
  | 0,_,free=>some free
  | n+1,pl,free=>if findK c s pl free<0 then none else fullRK c s n (pl+1) (free.set (findK c s pl free).toNat pl)
theorem fullR_eq(c:Cup)(s:Nat):∀ n pl free,fullR c s n pl free=fullRK c s n pl free
  | 0,_,_=>rfl
  | n+1,pl,free=>by
    unfold fullR fullRK
    rw [findM_eq,fullR_eq c s n]
theorem v56:fullM threeC 2=some [2,3,1]:=by
  unfold fullM
  rw [fullR_eq]
  kernel_rfl
theorem h56(base:Nat):FV Tryz.prog 56 [.p (cupP threeC),.p (intP 2)] base (.tup [.p (intsP [2,3,1]),.p (intP 0)]) []:=by
  have:=full_ok threeC 2 (lastE_three 2 (by omega)) (base:=base)
  rw [v56] at this
  exact this
def passK(c:Cup)(skier s:Nat):Bool:=decide (s≠skier) && decide (1<rankK (withC c (wonM c s)) skier)
theorem passes_eq(c:Cup)(skier s:Nat):KL.passes c skier s=passK c skier s:=by
  unfold KL.passes passK
  rw [rankM_eq]
def agK(c:Cup)(skier:Nat):Nat→Nat→Option Nat
  | 0,_=>none
  | f+1,k=>if passK c skier k then some k else agK c skier f (k+1)
theorem ag_eq(c:Cup)(skier:Nat):∀ f k,KL.againstAt c skier f k=agK c skier f k
  | 0,_=>rfl
  | f+1,k=>by
    unfold KL.againstAt agK
    rw [passes_eq,ag_eq c skier f]
def sureK(c:Cup)(s:Nat):Bool := !(agK c s c.sk.toNat 0).isSome
theorem sureM_eq(c:Cup):sureM c=sureK c:=by
  funext s
  unfold sureM sureK KL.againstM
  rw [ag_eq]
theorem v38:whoM (sureM threeC) 3=[]:=by
  rw [sureM_eq]
  kernel_rfl
theorem h38(base:Nat):FV Tryz.prog 38 [.p (cupP threeC)] base (.tup [.p (intsP []),.p (intP 0)]) []:=by
  have:=sureE_ok threeC valid_three (base:=base)
  rwa [show whoM (sureM threeC) threeC.sk.toNat=[] from v38] at this
def decPK(c:Cup)(n:Nat):Bool:=decide (0<(whoM (sureK (earlyC c n)) c.sk.toNat).length) && decide ((whoM (canK (earlyC c n)) c.sk.toNat).length=1)
theorem decP_eq(c:Cup):decP c=decPK c:=by
  funext n
  unfold decP decPK
  rw [sureM_eq,canM_eq]
theorem v73:decM twoC=(3,0,0):=by
  unfold decM
  rw [decP_eq]
  simp only [sureM_eq]
  kernel_rfl
theorem h73(base:Nat):FV Tryz.prog 73 [.p (cupP twoC)] base (.tup [.p (intP 3),.p (intP 0),.p (intP 0)]) []:=by
  have:=dec_ok twoC valid_two (base:=base)
  rwa [v73] at this
def rivPK(c:Cup)(s i:Nat):Int:=if beatK c i 0 s 0 then 61 else upto (fun p=>beatK c i p s 0) 60 0
theorem rivPl_eq(c:Cup)(s i:Nat):rivPl c s i=rivPK c s i:=by
  unfold rivPl rivPK
  rw [beatsM_fun]
theorem v55:worstM threeC 1=(3,3,[1,0,2]):=by
  have e:rivG threeC 1=fun i=>if i=1 then [] else if 0<rivPK threeC 1 i then [[(i:Int),rivPK threeC 1 i]] else []:=by
    funext i
    unfold rivG
    rw [rivPl_eq]
  have h:((KL.isort (ltK 1) ((List.range threeC.sk.toNat).flatMap fun i=>if i=1 then [] else if 0<rivPK threeC 1 i then [[(i:Int),rivPK threeC 1 i]] else [])).foldl wStep (1,1,List.replicate threeC.sk.toNat 0):Int × Int × List Int)=(3,3,[1,0,2]):=by kernel_rfl
  unfold worstM rivM rivL
  rw [e]
  exact h
theorem h55(base:Nat):FV Tryz.prog 55 [.p (cupP threeC),.p (intP 1)] base (.tup [.p (intP 3),.p (intsP [1,0,2]),.p (intP 0)]) []:=by
  have:=worst_ok threeC 1 (lastE_three 1 (by omega)) (base:=base)
  rw [v55] at this
  exact this
theorem awake_told(h22:∀ base:Nat,FV Tryz.prog 22 [.p (cupP threeC),.p (intsP [5,5,9]),.p (intP 1),.p (intsP [4,3])] base (.tup [.p (.sl 2 ([[5,1,14,4],[9,2,12,3]].flatten.map intP)),.p (intP 0)]) [])(base:Nat):FV Tryz.prog 19 [] base (.p (blP true)) [] :=
  awake_p0 h34 h37 h38 h55 h39 h25 h73 h56 h22 h87
end KV
end Go.Proofs
end
section
namespace Go.Proofs
open KL Go.RowKit
namespace KV

theorem totalM_bd{c:KL.Cup}(hV:KL.Valid c)(s:Nat):0≤KL.totalM c s∧KL.totalM c s≤20000:=by
  unfold KL.totalM
  have hl:((KL.countedL c s).map fun i=>KL.scoreAt c i.toNat s).length≤20:=by
    rw [List.length_map,countedL_eq]
    have h1:∀ l,(KL.sortI l).length=l.length:=fun l=>by rw [← KL.mergeSort_eq];exact List.length_mergeSort l
    rw [h1,List.length_take]
    have:=hV.be2
    have:=hV.ra2
    omega
  have hb:∀ x∈((KL.countedL c s).map fun i=>KL.scoreAt c i.toNat s),0≤x∧x≤1000:=fun x hx=>by
    obtain ⟨i,_,rfl⟩:=List.mem_map.1 hx
    exact KL.scoreM_bd _ _ _ hV.pts
  have key:∀ l:List Int,(∀ x∈l,0≤x∧x≤1000)→0≤l.sum∧l.sum≤1000*l.length:=fun l h=>by
    induction l with
    | nil=>simp
    | cons x r ih =>
      have h1:=h x (List.mem_cons_self ..)
      have h2:=ih fun y hy=>h y (List.mem_cons_of_mem _ hy)
      rw [List.sum_cons,List.length_cons]
      omega
  have:=key _ hb
  omega
theorem totalsM_len(c:KL.Cup):(KL.totalsM c).length=c.sk.toNat:=KL.totalsUp_length _ _
theorem totalsM_mem{c:KL.Cup}(hV:KL.Valid c):∀ x∈KL.totalsM c,0≤x∧x≤20000:=fun x hx=>by
  unfold KL.totalsM KL.totalsUp at hx
  obtain ⟨s,_,rfl⟩:=List.mem_map.1 hx
  exact totalM_bd hV s
theorem all_within{l:List Int}{a b:Int}(h:(l.all fun x=>within x a b)=true):∀ x∈l,a≤x∧x≤b:=fun x hx=>by
  have:=List.all_eq_true.1 h x hx
  exact within_iff.1 this
theorem nat_ok(c:KL.Cup)(ns:List Int)(mo:Int)(qs:List Int)(hS:KL.Small c)(hE:natE c ns mo qs=0){base:Nat}:FV Tryz.prog 22 [.p (cupP c),.p (intsP ns),.p (intP mo),.p (intsP qs)] base
    (.tup [.p (.sl (nationsM c ns mo qs).length ((nationsM c ns mo qs).flatten.map intP)),.p (intP 0)]) []:=by
  unfold natE at hE
  split at hE
  · exact absurd hE ‹_›
  rename_i h1
  split at hE
  · omega
  rename_i h2
  split at hE
  · omega
  rename_i h3
  split at hE
  · omega
  rename_i h4
  have h1:KL.checkP c=0:=Decidable.byContradiction h1
  have hV:=(KL.valid_iff c).1 h1
  have a1:(ns.length:Int)=c.sk:=Decidable.byContradiction fun h=>h2 (.inl h)
  have a2:within (qs.length:Int) 1 31=true:=by
    cases h:within (qs.length:Int) 1 31
    · exact absurd (.inr h) h2
    · rfl
  have a3:(ns.all fun x=>within x 0 30)=true:=by
    cases h:(ns.all fun x=>within x 0 30)
    · exact absurd (.inl h) h3
    · rfl
  have a4:within mo 1 12=true:=by
    cases h:within mo 1 12
    · exact absurd (.inr (.inl h)) h3
    · rfl
  have a5:(qs.all fun x=>within x 0 20)=true:=by
    cases h:(qs.all fun x=>within x 0 20)
    · exact absurd (.inr (.inr h)) h3
    · rfl
  have a6:KL.fallsB qs=true:=by
    cases h:KL.fallsB qs
    · exact absurd h h4
    · rfl
  have b2:=within_iff.1 a2
  have s2:=hV.sk2
  exact nat_p7 hS h1 a1 a2 (by unfold small;omega) a3 a4 (by unfold small;omega) a5 (by omega) a6 (nat_main hV a1 (all_within a3) (within_iff.1 a4) (by omega) (totalsM_len c) (fun x hx=>by have:=totalsM_mem hV x hx;omega))
theorem totals_three:KL.totalsM threeC=[14,14,12]:=by
  have e:KL.totalsM threeC=(List.range 3).map (totK threeC):=by
    unfold KL.totalsM KL.totalsUp
    exact List.map_congr_left fun s _=>totalM_eq threeC s
  have h:(List.range 3).map (totK threeC)=[14,14,12]:=by kernel_rfl
  exact e.trans h
theorem v22:nationsM threeC [5,5,9] 1 [4,3]=[[5,1,14,4],[9,2,12,3]]:=by
  unfold nationsM
  have h:natL [4,3] (outL [5,5,9] [14,14,12] 1 ([14,14,12]:List Int).length 31)=[[5,1,14,4],[9,2,12,3]]:=by kernel_rfl
  rw [totals_three]
  exact h
theorem h22(base:Nat):FV Tryz.prog 22 [.p (cupP threeC),.p (intsP [5,5,9]),.p (intP 1),.p (intsP [4,3])] base (.tup [.p (.sl 2 ([[5,1,14,4],[9,2,12,3]].flatten.map intP)),.p (intP 0)]) []:=by
  have hE:natE threeC [5,5,9] 1 [4,3]=0:=by
    unfold natE
    have h:(if (([5,5,9]:List Int).length:Int)≠threeC.sk∨within (([4,3]:List Int).length:Int) 1 31=false then (2:Int) else if (([5,5,9]:List Int).all fun x=>within x 0 30)=false∨within 1 1 12=false∨(([4,3]:List Int).all fun x=>within x 0 20)=false then 3 else if KL.fallsB [4,3]=false then 4 else 0)=0:=by kernel_rfl
    rw [(KL.valid_iff threeC).2 valid_three,if_neg (by simp)]
    exact h
  have:=nat_ok threeC [5,5,9] 1 [4,3] valid_three.small hE (base:=base)
  rw [v22] at this
  exact this
theorem awake_ok(base:Nat):FV Tryz.prog 19 [] base (.p (blP true)) []:=awake_told h22 base
end KV
end Go.Proofs
end
section
namespace Go.Proofs
namespace KL
section
variable {α:Type}
theorem ins_split(lt:α→α→Bool)(A:List α)(x:α):∃ B D:List α,A=B++D∧ins lt A x=B++x::D∧(∀ d∈D,lt x d=true)∧(B=[]∨∃ B' h,B=B'++[h]∧lt x h=false):=by
  have hA:A=(A.reverse.dropWhile (lt x)).reverse++(A.reverse.takeWhile (lt x)).reverse:=by
    rw [← List.reverse_append,List.takeWhile_append_dropWhile,List.reverse_reverse]
  generalize hdw:A.reverse.dropWhile (lt x)=dw at hA
  generalize htw:A.reverse.takeWhile (lt x)=tw at hA
  have hp:insPos lt x A=dw.reverse.length:=by unfold insPos;rw [hdw,List.length_reverse]
  refine ⟨dw.reverse,tw.reverse,hA,?_,fun d hd => ?_,?_⟩
  · unfold ins
    rw [hp]
    conv=>lhs;rw [hA]
    rw [List.take_left',List.drop_left'] <;> rfl
  · rw [List.mem_reverse,← htw] at hd
    exact List.all_eq_true.1 List.all_takeWhile d hd
  · cases dw with
    | nil=>exact .inl rfl
    | cons h r =>
      refine .inr ⟨r.reverse,h,by simp,?_⟩
      have:=List.head_dropWhile_not (lt x) (l:=A.reverse) (by rw [hdw];simp)
      simp only [hdw,List.head_cons] at this
      simpa using this
theorem ins_perm(lt:α→α→Bool)(A:List α)(x:α):(ins lt A x).Perm (x::A):=by
  obtain ⟨B,D,h1,h2,_⟩:=ins_split lt A x
  rw [h2,h1]
  exact List.perm_middle
theorem isort_perm(lt:α→α→Bool)(l:List α):(isort lt l).Perm l:=by
  unfold isort
  have:∀ (l A:List α),(l.foldl (ins lt) A).Perm (A++l):=by
    intro l
    induction l with
    | nil=>intro A;simp
    | cons x r ih =>
      intro A
      rw [List.foldl_cons]
      refine (ih _).trans (((ins_perm lt A x).append_right r).trans ?_)
      exact List.perm_middle.symm
  simpa using this l []
theorem ins_sorted{f:α→Int}{lt:α→α→Bool}(hlt:∀ x y,lt x y=decide (f x<f y)){A:List α}(x:α)(hs:A.Pairwise (fun a b=>f a≤f b)):(ins lt A x).Pairwise (fun a b=>f a≤f b):=by
  obtain ⟨B,D,rfl,h2,h3,h4⟩:=ins_split lt A x
  rw [h2]
  obtain ⟨s1,s2,s3⟩:=List.pairwise_append.1 hs
  have hB:∀ b∈B,f b≤f x:=fun b hb=>by
    rcases h4 with rfl | ⟨B',h,rfl,hx⟩
    · simp at hb
    · rw [hlt,decide_eq_false_iff_not] at hx
      rcases List.mem_append.1 hb with hb | hb
      · have:=(List.pairwise_append.1 s1).2.2 b hb h (by simp)
        omega
      · simp at hb;subst hb;omega
  have hD:∀ d∈D,f x≤f d:=fun d hd=>by
    have:=h3 d hd
    rw [hlt,decide_eq_true_eq] at this
    omega
  refine List.pairwise_append.2 ⟨s1,List.pairwise_cons.2 ⟨hD,s2⟩,fun a ha b hb => ?_⟩
  rcases List.mem_cons.1 hb with rfl | hb
  · exact hB a ha
  · exact s3 a ha b hb
theorem isort_sorted{f:α→Int}{lt:α→α→Bool}(hlt:∀ x y,lt x y=decide (f x<f y))(l:List α):(isort lt l).Pairwise (fun a b=>f a≤f b):=by
  unfold isort
  have:∀ (l A:List α),A.Pairwise (fun a b=>f a≤f b)→(l.foldl (ins lt) A).Pairwise (fun a b=>f a≤f b):=by
    intro l
    induction l with
    | nil=>intro A h;exact h
    | cons x r ih=>intro A h;rw [List.foldl_cons];exact ih _ (ins_sorted hlt x h)
  exact this l [] .nil
end
end KL
end Go.Proofs
end
namespace Go.Proofs
namespace KV
section
open KL
def ofM(L:List (List Int))(n:Int):List Int:=(L.find? fun x=>x.getD 0 0 == n).getD [0,-1,0,0]
end
end KV
end Go.Proofs
section
namespace Go.Proofs
open KL Go.RowKit
namespace KV

theorem cmp_dec(a b:Int):decide (KL.cmpI a b<0)=decide (a<b):=by
  unfold KL.cmpI
  split
  · rename_i h;simp [h]
  · rename_i h
    split
    · rename_i h2;simp;omega
    · simp;omega
theorem sum_nonneg{l:List Int}(h:∀ x∈l,0≤x):0≤l.sum:=by
  induction l with
  | nil=>simp
  | cons x r ih =>
    have:=h x (List.mem_cons_self ..)
    have:=ih fun y hy=>h y (List.mem_cons_of_mem _ hy)
    rw [List.sum_cons];omega
theorem sum_perm{l r:List Int}(h:l.Perm r):l.sum=r.sum:=by
  induction h with
  | nil=>rfl
  | cons x _ ih=>rw [List.sum_cons,List.sum_cons,ih]
  | swap x y l=>simp only [List.sum_cons];omega
  | trans _ _ h1 h2=>rw [h1,h2]

section
variable {ns ts:List Int} {mo:Int} {qs:List Int} {N:Nat}
end

end KV
end Go.Proofs
end
namespace Go.Proofs
namespace KV
section
open KL
end
end KV
end Go.Proofs
section
namespace Go.Proofs
open KL Go.RowKit
namespace KL
section
variable {α:Type}
theorem ins_stable{f g:α→Int}{lt:α→α→Bool}(hlt:∀ x y,lt x y=decide (f x<f y)){A:List α}(x:α)(hs:A.Pairwise (fun a b=>f a<f b∨f a=f b∧g a<g b))(hg:∀ a∈A,g a<g x):(ins lt A x).Pairwise (fun a b=>f a<f b∨f a=f b∧g a<g b):=by
  obtain ⟨B,D,rfl,h2,h3,h4⟩:=ins_split lt A x
  rw [h2]
  obtain ⟨s1,s2,s3⟩:=List.pairwise_append.1 hs
  have hB:∀ b∈B,f b≤f x:=fun b hb=>by
    rcases h4 with rfl | ⟨B',h,rfl,hx⟩
    · simp at hb
    · rw [hlt,decide_eq_false_iff_not] at hx
      rcases List.mem_append.1 hb with hb | hb
      · have:=(List.pairwise_append.1 s1).2.2 b hb h (by simp)
        omega
      · simp at hb;subst hb;omega
  have hD:∀ d∈D,f x<f d:=fun d hd=>by
    have:=h3 d hd
    rwa [hlt,decide_eq_true_eq] at this
  refine List.pairwise_append.2 ⟨s1,List.pairwise_cons.2 ⟨fun d hd => .inl (hD d hd),s2⟩,fun a ha b hb => ?_⟩
  rcases List.mem_cons.1 hb with rfl | hb
  · have h5:=hB a ha
    have h6:=hg a (List.mem_append_left _ ha)
    by_cases e:f a=f b
    · exact .inr ⟨e,h6⟩
    · exact .inl (by omega)
  · exact s3 a ha b hb
theorem isort_stable{f g:α→Int}{lt:α→α→Bool}(hlt:∀ x y,lt x y=decide (f x<f y))(l:List α)(hl:l.Pairwise (fun a b=>g a<g b)):(isort lt l).Pairwise (fun a b=>f a<f b∨f a=f b∧g a<g b):=by
  unfold isort
  have:∀ (l A:List α),l.Pairwise (fun a b=>g a<g b)→(∀ a∈A,∀ x∈l,g a<g x)→A.Pairwise (fun a b=>f a<f b∨f a=f b∧g a<g b)→(l.foldl (ins lt) A).Pairwise (fun a b=>f a<f b∨f a=f b∧g a<g b):=by
    intro l
    induction l with
    | nil=>intro A _ _ h;exact h
    | cons x r ih =>
      intro A hl hA h
      obtain ⟨h1,h2⟩:=List.pairwise_cons.1 hl
      rw [List.foldl_cons]
      refine ih _ h2 (fun a ha y hy => ?_) (ins_stable hlt x h (fun a ha=>hA a ha x (List.mem_cons_self ..)))
      rcases List.mem_cons.1 ((ins_perm lt A x).mem_iff.1 ha) with rfl | ha
      · exact h1 y hy
      · exact hA a ha y (List.mem_cons_of_mem _ hy)
  exact this l [] hl (fun a ha=>by simp at ha) .nil
end
end KL
namespace KV

abbrev scF(c:Cup)(s:Nat)(x:Int):Int:=scoreAt c x.toNat s
abbrev srtC(c:Cup)(s:Nat):List Int:=KL.isort (KL.ltC (KL.cntCmp c s)) (KL.idx c.done.length)
theorem idx_pw(n:Nat):(KL.idx n).Pairwise (· < ·):=by
  unfold KL.idx
  rw [List.pairwise_map]
  exact List.Pairwise.imp (fun h=>by omega) List.pairwise_lt_range
theorem srtC_pw(c:Cup)(s:Nat):(srtC c s).Pairwise (fun a b => -scF c s a < -scF c s b ∨ -scF c s a = -scF c s b∧a<b):=by
  refine isort_stable (f:=fun x => -scF c s x) (g:=fun x=>x) (fun x y => ?_) _ (idx_pw _)
  refine (cmp_dec _ _).trans ?_
  rw [decide_eq_decide]
  show scF c s y<scF c s x ↔ -scF c s x < -scF c s y
  omega
theorem srtC_perm(c:Cup)(s:Nat):(srtC c s).Perm (KL.idx c.done.length):=isort_perm _ _
theorem cntd_perm(c:Cup)(s:Nat):(countedL c s).Perm ((srtC c s).take (min c.done.length c.be.toNat)):=by
  rw [countedL_eq]
  exact KL.sortI_perm _
theorem totalM_take(c:Cup)(s:Nat):totalM c s=(((srtC c s).map (scF c s)).take (min c.done.length c.be.toNat)).sum:=by
  unfold totalM
  rw [← List.map_take]
  exact sum_perm ((cntd_perm c s).map _)
theorem scF_bd{c:Cup}(hV:KL.Valid c)(s:Nat)(x:Int):0≤scF c s x∧scF c s x≤1000:=KL.scoreM_bd _ _ _ hV.pts
end KV
end Go.Proofs
end
namespace Go.Proofs
namespace KV
section
open KL
def mostM(c:Cup)(n:Nat):List Int:=(List.range n).map fun s=>totalM (withC c (wonM c s)) s
end
end KV
end Go.Proofs
section
namespace Go.Proofs
namespace KL
theorem worth_snoc(pts:List Int)(p m:Nat):worthM pts p (m+1)=worthM pts p m+pts.getD (p-1+m) 0:=by
  unfold worthM
  rw [List.take_add_one,List.sum_append,List.getElem?_drop,List.getD_eq_getElem?_getD]
  cases pts[p-1+m]? <;> simp
theorem falls_le{pts:List Int}(h:fallsB pts=true)(h0:∀ x∈pts,0≤x):∀ (d a:Nat),pts.getD (a+d) 0≤pts.getD a 0:=by
  have nn:∀ a,0≤pts.getD a 0:=fun a=>by
    rw [List.getD_eq_getElem?_getD]
    cases e:pts[a]? with
    | none=>simp
    | some x=>simpa using h0 x (List.mem_of_getElem? e)
  have hz:∀ a,pts.length≤a→pts.getD a 0=0:=fun a ha=>by rw [List.getD_eq_getElem?_getD,List.getElem?_eq_none ha];rfl
  unfold fallsB sortedB at h
  rw [decide_eq_true_iff] at h
  intro d
  induction d with
  | zero=>intro a;exact Int.le_refl _
  | succ d ih =>
    intro a
    refine Int.le_trans ?_ (ih a)
    rw [← Nat.add_assoc]
    by_cases hl:a+d+1<pts.length
    · have:=h (a+d) (by omega)
      unfold cmpDown cmpI at this
      repeat' split at this
      all_goals omega
    · rw [hz _ (by omega)];exact nn _
end KL
end Go.Proofs
end
section
namespace Go.Proofs
open KL Go.RowKit
namespace KV

def pos(x:Int):Int:=if 0≤x then x else 0
theorem pos_nn(x:Int):0≤pos x:=by unfold pos;split <;> omega
theorem pos_ge(x:Int):x≤pos x:=by unfold pos;split <;> omega
abbrev ov(t:Int)(l:List Int):Int:=(l.map fun x=>pos (x-t)).sum
theorem ov_nn(t:Int)(l:List Int):0≤ov t l:=sum_nonneg fun x hx=>by
  obtain ⟨y,_,rfl⟩:=List.mem_map.1 hx
  exact pos_nn _
theorem top_le{t:Int}(ht:0≤t):∀ (A:List Int) (k:Nat),(A.take k).sum≤k*t+ov t A
  | A,0=>by have:=ov_nn t A;simp;omega
  | [],k+1=>by
    have:0≤((k+1:Nat):Int)*t:=Int.mul_nonneg (by omega) ht
    simpa [ov] using this
  | x::r,k+1=>by
    have h:=top_le ht r k
    have h2:=pos_ge (x-t)
    have e:((k+1:Nat):Int)*t=k*t+t:=by rw [Int.natCast_add,Int.add_mul];omega
    have e2:ov t (x::r)=pos (x-t)+ov t r:=by unfold ov;rw [List.map_cons,List.sum_cons]
    rw [List.take_succ_cons,List.sum_cons,e,e2]
    omega
theorem ov_low{t:Int}:∀ {l:List Int},(∀ x∈l,x≤t)→ov t l=0
  | [],_=>rfl
  | x::r,h=>by
    have e2:ov t (x::r)=pos (x-t)+ov t r:=by unfold ov;rw [List.map_cons,List.sum_cons]
    rw [e2,ov_low fun y hy=>h y (List.mem_cons_of_mem _ hy)]
    have:=h x (List.mem_cons_self ..)
    unfold pos;split <;> omega
theorem ov_high{t:Int}:∀ {l:List Int},(∀ x∈l,t≤x)→l.sum=l.length*t+ov t l
  | [],_=>by simp [ov]
  | x::r,h=>by
    have e2:ov t (x::r)=pos (x-t)+ov t r:=by unfold ov;rw [List.map_cons,List.sum_cons]
    have e:((r.length+1:Nat):Int)*t=r.length*t+t:=by rw [Int.natCast_add,Int.add_mul];omega
    have:=h x (List.mem_cons_self ..)
    have h3:=ov_high fun y hy=>h y (List.mem_cons_of_mem _ hy)
    have h4:pos (x-t)=x-t:=by unfold pos;rw [if_pos (by omega)]
    rw [List.sum_cons,e2,List.length_cons,e,h4]
    omega
theorem top_eq{A:List Int}(hs:A.Pairwise (fun a b=>b≤a))(h0:∀ x∈A,0≤x)(k:Nat):∃ t:Int,0≤t∧(A.take k).sum=k*t+ov t A:=by
  have hov:∀ t,ov t A=ov t (A.take k)+ov t (A.drop k):=fun t=>by
    unfold ov
    rw [← List.sum_append,← List.map_append,List.take_append_drop]
  rw [← List.take_append_drop k A] at hs
  have hp:=(List.pairwise_append.1 hs)
  cases hd:A.drop k with
  | nil =>
    refine ⟨0,by omega,?_⟩
    rw [hov,hd,Int.mul_zero,ov_high (t:=0) (l:=A.take k) (fun x hx=>h0 x (List.mem_of_mem_take hx)),Int.mul_zero]
    simp [ov]
  | cons y r =>
    have hk:k<A.length:=by
      have h:(A.drop k).length=r.length+1:=by rw [hd];rfl
      rw [List.length_drop] at h;omega
    rw [hd] at hp
    have hy:y∈A:=List.mem_of_mem_drop (i:=k) (by rw [hd];exact List.mem_cons_self ..)
    refine ⟨y,h0 y hy,?_⟩
    rw [hov,hd,ov_high (t:=y) (l:=A.take k) (fun x hx=>hp.2.2 x hx y (List.mem_cons_self ..)),ov_low (t:=y) (l:=y::r),List.length_take,Nat.min_eq_left (by omega)]
    · omega
    · intro x hx
      rcases List.mem_cons.1 hx with rfl | hx
      · exact Int.le_refl _
      · exact (List.pairwise_cons.1 hp.2.1).1 x hx
theorem top_mono{A B:List Int}{k:Nat}(hs:B.Pairwise (fun a b=>b≤a))(h0:∀ x∈B,0≤x)(h:∀ t,0≤t→ov t A≤ov t B):(A.take k).sum≤(B.take k).sum:=by
  obtain ⟨t,ht,e⟩:=top_eq hs h0 k
  have:=top_le ht A k
  have:=h t ht
  omega

abbrev scR(c:Cup)(s:Nat)(r:List Int):Int:=scoreM c.pts r s
abbrev srtS(c:Cup)(s:Nat):List Int:=(srtC c s).map (scF c s)
theorem srtS_pw(c:Cup)(s:Nat):(srtS c s).Pairwise (fun a b=>b≤a):=by
  unfold srtS
  rw [List.pairwise_map]
  exact (srtC_pw c s).imp fun h=>by omega
theorem srtS_perm(c:Cup)(s:Nat):(srtS c s).Perm (c.done.map (scR c s)):=by
  refine ((srtC_perm c s).map _).trans ?_
  have:(KL.idx c.done.length).map (scF c s)=c.done.map (scR c s):=by
    unfold KL.idx
    rw [List.map_map]
    refine List.ext_getElem (by simp) fun i h1 h2 => ?_
    have hi:i<c.done.length:=by simpa using h2
    simp only [List.getElem_map,List.getElem_range,Function.comp]
    show scoreM c.pts (c.done.getD (i:Int).toNat []) s=scoreM c.pts c.done[i] s
    rw [Int.toNat_natCast,List.getD_eq_getElem?_getD,List.getElem?_eq_getElem hi];rfl
  rw [this]
theorem srtS_nn{c:Cup}(hV:KL.Valid c)(s:Nat):∀ x∈srtS c s,0≤x:=fun x hx=>by
  obtain ⟨y,_,rfl⟩:=List.mem_map.1 hx
  exact (scF_bd hV s y).1
theorem total_top(c:Cup)(s:Nat):totalM c s=((srtS c s).take c.be.toNat).sum:=by
  rw [totalM_take]
  have hl:(srtS c s).length=c.done.length:=by rw [(srtS_perm c s).length_eq,List.length_map]
  by_cases h:c.be.toNat≤c.done.length
  · rw [Nat.min_eq_right h]
  · rw [Nat.min_eq_left (by omega),List.take_of_length_le (l:=srtS c s) (by omega),List.take_of_length_le (l:=srtS c s) (by omega)]
theorem ov_srt(c:Cup)(s:Nat)(t:Int):ov t (srtS c s)=ov t (c.done.map (scR c s)):=sum_perm ((srtS_perm c s).map _)
theorem ov_with(c:Cup)(F:List (List Int))(s:Nat)(t:Int):ov t (srtS (withC c F) s)=ov t (c.done.map (scR c s))+ov t (F.map (scR c s)):=by
  rw [ov_srt]
  show ov t ((c.done++F).map (scR c s))=_
  unfold ov
  rw [List.map_append,List.map_append,List.sum_append]
end KV
end Go.Proofs
end
section
namespace Go.Proofs
open KL Go.RowKit
namespace KV

def lexGt(p q:List Int):Prop:=∃ k,1≤k∧k≤60∧q.getD k 0<p.getD k 0∧∀ j,1≤j→j<k→p.getD j 0=q.getD j 0
def lexGe(p q:List Int):Prop:=(∀ j,1≤j→j≤60→p.getD j 0=q.getD j 0)∨lexGt p q
theorem lexFrom_iff(p q:List Int):∀ f i:Nat,KL.lexFrom p q f i=true↔∃ k,i≤k∧k<i+f∧q.getD k 0<p.getD k 0∧∀ j,i≤j→j<k→p.getD j 0=q.getD j 0
  | 0,i=>by
    unfold KL.lexFrom
    constructor
    · intro h;cases h
    · rintro ⟨k,h1,h2,_⟩;omega
  | f+1,i=>by
    unfold KL.lexFrom
    by_cases e:p.getD i 0=q.getD i 0
    · rw [if_pos e,lexFrom_iff p q f (i+1)]
      constructor
      · rintro ⟨k,h1,h2,h3,h4⟩
        refine ⟨k,by omega,by omega,h3,fun j hj hk => ?_⟩
        by_cases ej:j=i
        · rw [ej];exact e
        · exact h4 j (by omega) hk
      · rintro ⟨k,h1,h2,h3,h4⟩
        have:k≠i:=fun ek=>by rw [ek] at h3;omega
        exact ⟨k,by omega,by omega,h3,fun j hj hk=>h4 j (by omega) hk⟩
    · rw [if_neg e]
      constructor
      · intro h
        exact ⟨i,Nat.le_refl _,by omega,of_decide_eq_true h,fun j hj hk=>by omega⟩
      · rintro ⟨k,h1,h2,h3,h4⟩
        by_cases ek:k=i
        · rw [ek] at h3;exact decide_eq_true h3
        · exact absurd (h4 i (Nat.le_refl _) (by omega)) e
theorem lexGt_iff{p q:List Int}:KL.lexFrom p q 60 1=true↔lexGt p q:=by
  rw [lexFrom_iff]
  constructor
  · rintro ⟨k,h1,h2,h3,h4⟩;exact ⟨k,h1,by omega,h3,h4⟩
  · rintro ⟨k,h1,h2,h3,h4⟩;exact ⟨k,h1,by omega,h3,h4⟩
theorem lexGe_gt{p q r:List Int}(h:lexGe p q)(g:lexGt q r):lexGt p r:=by
  obtain ⟨k,k1,k2,k3,k4⟩:=g
  rcases h with h | ⟨i,i1,i2,i3,i4⟩
  · exact ⟨k,k1,k2,by rw [h k k1 k2];exact k3,fun j h1 h2=>by rw [h j h1 (by omega)];exact k4 j h1 h2⟩
  · rcases Nat.lt_trichotomy i k with e | e | e
    · exact ⟨i,i1,i2,by rw [← k4 i i1 e];exact i3,fun j h1 h2=>by rw [i4 j h1 h2];exact k4 j h1 (by omega)⟩
    · subst e
      exact ⟨i,i1,i2,by omega,fun j h1 h2=>by rw [i4 j h1 h2];exact k4 j h1 h2⟩
    · exact ⟨k,k1,k2,by rw [i4 k k1 e];exact k3,fun j h1 h2=>by rw [i4 j h1 (by omega)];exact k4 j h1 h2⟩
theorem lexGt_ge{p q r:List Int}(g:lexGt p q)(h:lexGe q r):lexGt p r:=by
  obtain ⟨k,k1,k2,k3,k4⟩:=g
  rcases h with h | ⟨i,i1,i2,i3,i4⟩
  · exact ⟨k,k1,k2,by rw [← h k k1 k2];exact k3,fun j h1 h2=>by rw [k4 j h1 h2];exact h j h1 (by omega)⟩
  · rcases Nat.lt_trichotomy i k with e | e | e
    · exact ⟨i,i1,i2,by rw [k4 i i1 e];exact i3,fun j h1 h2=>by rw [k4 j h1 (by omega)];exact i4 j h1 h2⟩
    · subst e
      exact ⟨i,i1,i2,by omega,fun j h1 h2=>by rw [k4 j h1 h2];exact i4 j h1 h2⟩
    · exact ⟨k,k1,k2,by rw [← i4 k k1 e];exact k3,fun j h1 h2=>by rw [k4 j h1 h2];exact i4 j h1 (by omega)⟩
theorem lexGe_of{p q:List Int}(h:∀ j,1≤j→j≤60→q.getD j 0≤p.getD j 0):lexGe p q:=by
  have key:∀ n,n≤60→(∀ j,1≤j→j≤n→p.getD j 0=q.getD j 0)∨lexGt p q:=by
    intro n
    induction n with
    | zero=>intro _;exact .inl fun j h1 h2=>by omega
    | succ n ih =>
      intro hn
      rcases ih (by omega) with g | g
      · by_cases e:p.getD (n+1) 0=q.getD (n+1) 0
        · exact .inl fun j h1 h2=>by
            by_cases ej:j=n+1
            · rw [ej];exact e
            · exact g j h1 (by omega)
        · have:=h (n+1) (by omega) hn
          exact .inr ⟨n+1,by omega,hn,by omega,fun j h1 h2=>g j h1 (by omega)⟩
      · exact .inr g
  exact key 60 (Nat.le_refl _)

structure Dom (c1 c2:Cup) (x:Nat):Prop where
  tot:totalM c1 x≤totalM c2 x
  pl:lexGe (placesM c2 x) (placesM c1 x)
theorem betS_iff{c:Cup}{a b:Nat}:betS c a b=true↔totalM c b<totalM c a∨totalM c a=totalM c b∧lexGt (placesM c a) (placesM c b):=by
  unfold betS KL.betterF
  split
  · rename_i e
    rw [lexGt_iff]
    constructor
    · intro h;exact .inr ⟨e,h⟩
    · rintro (h | h)
      · omega
      · exact h.2
  · rename_i e
    rw [decide_eq_true_iff]
    constructor
    · intro h;exact .inl h
    · rintro (h | h)
      · exact h
      · exact absurd h.1 e
theorem betS_dom{c1 c2:Cup}{a b:Nat}(ha:Dom c1 c2 a)(hb:Dom c2 c1 b)(h:betS c1 a b=true):betS c2 a b=true:=by
  have t1:=ha.tot
  have t2:=hb.tot
  rw [betS_iff] at h ⊢
  rcases h with h | ⟨h1,h2⟩
  · exact .inl (by omega)
  · by_cases e:totalM c2 b<totalM c2 a
    · exact .inl e
    · exact .inr ⟨by omega,lexGt_ge (lexGe_gt ha.pl h2) hb.pl⟩

abbrev cntP(F:List (List Int))(s p:Nat):Nat:=F.countP fun r=>decide (r.getD s 0=(p:Int))
theorem places_at{c:Cup}{s p:Nat}(h1:1≤p)(h2:p≤60):(placesM c s).getD p 0=(cntP c.done s p:Int):=by
  unfold placesM KL.placesUpTo
  rw [List.getD_eq_getElem?_getD,List.getElem?_map,List.getElem?_range (by omega)]
  simp only [Option.map_some,Option.getD_some]
  unfold KL.oftenUpTo
  rw [if_neg (by omega),List.take_length]
theorem places_with{c:Cup}{F:List (List Int)}{s p:Nat}(h1:1≤p)(h2:p≤60):(placesM (withC c F) s).getD p 0=(cntP c.done s p:Int)+cntP F s p:=by
  rw [places_at h1 h2]
  show ((c.done++F).countP _:Int)=_
  rw [List.countP_append]
  exact Int.natCast_add ..
section
variable {c:Cup} {F:List (List Int)} {x:Nat}
end
end KV
end Go.Proofs
end
section
namespace Go.Proofs
open KL Go.RowKit
namespace KV

theorem srt_ext{α:Type}{r:α→α→Prop}(has:∀ a b,r a b→¬ r b a):∀ {a b:List α},a.Pairwise r→b.Pairwise r→(∀ x,x∈a↔x∈b)→a=b
  | [],[],_,_,_=>rfl
  | [],y::b,_,_,h=>by have:=(h y).2 (by simp);simp at this
  | x::a,[],_,_,h=>by have:=(h x).1 (by simp);simp at this
  | x::a,y::b,ha,hb,h=>by
    obtain ⟨a1,a2⟩:=List.pairwise_cons.1 ha
    obtain ⟨b1,b2⟩:=List.pairwise_cons.1 hb
    have e:x=y:=by
      rcases List.mem_cons.1 ((h x).1 (by simp)) with e | h1
      · exact e
      · rcases List.mem_cons.1 ((h y).2 (by simp)) with e | h2
        · exact e.symm
        · exact absurd (b1 x h1) (has _ _ (a1 y h2))
    subst e
    rw [srt_ext has a2 b2 fun z => ?_]
    constructor
    · intro hz
      rcases List.mem_cons.1 ((h z).1 (List.mem_cons_of_mem _ hz)) with e | h1
      · subst e;exact absurd (a1 z hz) (has _ _ (a1 z hz))
      · exact h1
    · intro hz
      rcases List.mem_cons.1 ((h z).2 (List.mem_cons_of_mem _ hz)) with e | h1
      · subst e;exact absurd (b1 z hz) (has _ _ (b1 z hz))
      · exact h1

theorem betS_self(c:Cup)(s:Nat):betS c s s=false:=by
  unfold betS KL.betterF
  rw [if_pos rfl]
  exact KL.lexFrom_same _ _ _
def bttrUp(c:Cup)(s n:Nat):Int:=1+((List.range n).countP (fun x=>betS c x s):Nat)
theorem rank_ref(c:Cup)(s:Nat):rankM c s=bttrUp c s c.sk.toNat:=by
  unfold rankM bttrUp KL.oth
  rw [List.countP_filter]
  congr 2
  refine List.countP_congr fun x hx => ?_
  by_cases e:x=s
  · subst e;simp [betS_self]
  · simp [e]
theorem rank_bd(c:Cup)(s:Nat)(hs:(s:Int)<c.sk):1≤rankM c s∧rankM c s≤c.sk:=by
  rw [rank_ref]
  unfold bttrUp
  have h1:=List.countP_le_length (p:=fun x=>betS c x s) (l:=List.range c.sk.toNat)
  rw [List.length_range] at h1
  rcases Nat.lt_or_ge ((List.range c.sk.toNat).countP fun x=>betS c x s) c.sk.toNat with h2 | h2
  · omega
  · have h3:(List.range c.sk.toNat).countP (fun x=>betS c x s)=(List.range c.sk.toNat).length:=by rw [List.length_range];omega
    have:=List.countP_eq_length.1 h3 s (List.mem_range.2 (by omega))
    rw [betS_self] at this
    cases this

def rowT(c:Cup)(s:Nat):List Int:=[(s:Int),rankM c s,totalM c s,(placesM c s).getD 1 0]
def rkL(c:Cup)(r n:Nat):List (List Int):=((List.range n).filter fun s=>decide (rankM c s=(r:Int)+1)).map (rowT c)
def tabR(c:Cup)(n:Nat):List (List Int):=(List.range n).flatMap fun r=>rkL c r c.sk.toNat
theorem tabR_succ(c:Cup)(n:Nat):tabR c (n+1)=tabR c n++rkL c n c.sk.toNat:=by
  unfold tabR
  rw [List.range_succ,List.flatMap_append]
  simp
abbrev ordT(a b:List Int):Prop:=a.getD 1 0<b.getD 1 0∨a.getD 1 0=b.getD 1 0∧a.getD 0 0<b.getD 0 0
theorem table_ref(c:Cup):tableM c=tabR c c.sk.toNat:=by
  refine srt_ext (r:=ordT) (fun a b h1 h2=>by unfold ordT at *;omega) ?_ ?_ fun x => ?_
  · refine isort_stable (f:=fun a:List Int=>a.getD 1 0) (g:=fun a:List Int=>a.getD 0 0) (fun x y=>cmp_dec _ _) _ ?_
    unfold tabL
    rw [List.pairwise_map]
    exact List.pairwise_lt_range.imp fun h=>by simp;omega
  · unfold tabR
    rw [List.pairwise_flatMap]
    refine ⟨fun r hr => ?_,List.pairwise_lt_range.imp fun {r1 r2} h => ?_⟩
    · unfold rkL
      rw [List.pairwise_map]
      refine (List.Pairwise.imp_of_mem (fun {a b} ha hb h => ?_) (List.pairwise_lt_range.filter _))
      obtain ⟨_,h1⟩:=List.mem_filter.1 ha
      obtain ⟨_,h2⟩:=List.mem_filter.1 hb
      have h1:=of_decide_eq_true h1
      have h2:=of_decide_eq_true h2
      refine .inr ⟨?_,?_⟩
      · show rankM c a=rankM c b
        omega
      · show (a:Int)<b
        omega
    · intro x hx y hy
      unfold rkL at hx hy
      obtain ⟨a,ha,rfl⟩:=List.mem_map.1 hx
      obtain ⟨b,hb,rfl⟩:=List.mem_map.1 hy
      have h1:=of_decide_eq_true (List.mem_filter.1 ha).2
      have h2:=of_decide_eq_true (List.mem_filter.1 hb).2
      refine .inl ?_
      show rankM c a<rankM c b
      omega
  · unfold tableM
    rw [(isort_perm _ _).mem_iff]
    unfold tabL tabR rkL
    rw [List.mem_map,List.mem_flatMap]
    constructor
    · rintro ⟨s,hs,rfl⟩
      have hs':=List.mem_range.1 hs
      have hb:=rank_bd c s (by omega)
      exact ⟨(rankM c s-1).toNat,List.mem_range.2 (by omega),List.mem_map.2 ⟨s,List.mem_filter.2 ⟨hs,decide_eq_true (by omega)⟩,rfl⟩⟩
    · rintro ⟨r,hr,hx⟩
      obtain ⟨s,hs,rfl⟩:=List.mem_map.1 hx
      exact ⟨s,(List.mem_filter.1 hs).1,rfl⟩
theorem tabR_uni(c:Cup)(n:Nat):uni 4 (tabR c n):=fun x hx=>by
  unfold tabR rkL at hx
  obtain ⟨r,_,hx⟩:=List.mem_flatMap.1 hx
  obtain ⟨s,_,rfl⟩:=List.mem_map.1 hx
  rfl

def badP(r:List Int)(p:Int):Bool:=decide (p≠0) && (decide (60<p+(r.count p:Int)-1) || r.any fun q=>decide (p<q) && decide (q≤p+(r.count p:Int)-1))
theorem clash_any(r:List Int)(h0:∀ x∈r,0≤x):KL.clashR r=r.any (badP r):=by
  cases e:r.any (badP r) with
  | false =>
    rw [KL.clash_iff r h0]
    intro p hp p0
    have h1:=List.any_eq_false.1 e p hp
    unfold badP at h1
    simp only [ne_eq,p0,not_false_eq_true,decide_true,Bool.true_and,Bool.or_eq_true,decide_eq_true_eq,not_or,Int.not_lt,List.any_eq_true,Bool.and_eq_true,not_exists,not_and] at h1
    obtain ⟨h2,h3⟩:=h1
    refine ⟨by omega,fun q hq hlt => ?_⟩
    have:=h3 q hq hlt
    omega
  | true =>
    obtain ⟨p,hp,h1⟩:=List.any_eq_true.1 e
    cases ec:KL.clashR r with
    | true=>rfl
    | false =>
      have hn:=(KL.clash_iff r h0).1 ec
      unfold badP at h1
      simp only [ne_eq,Bool.and_eq_true,decide_eq_true_eq,Bool.or_eq_true,List.any_eq_true] at h1
      obtain ⟨p0,h2⟩:=h1
      obtain ⟨n1,n2⟩:=hn p hp p0
      rcases h2 with h2 | ⟨q,hq,h3,h4⟩
      · omega
      · have:=n2 q hq h3
        omega
end KV
end Go.Proofs
end
namespace Go.Proofs
namespace KV
section
open KL
end
end KV
end Go.Proofs
section
namespace Go.Proofs
open KL Go.RowKit
namespace KV

theorem rank_one{c:Cup}{s:Nat}:rankM c s=1↔∀ o,o<c.sk.toNat→betS c o s=false:=by
  rw [rank_ref]
  unfold bttrUp
  constructor
  · intro h o ho
    have h0:(List.range c.sk.toNat).countP (fun x=>betS c x s)=0:=by omega
    have:=List.countP_eq_zero.1 h0 o (List.mem_range.2 ho)
    simpa using this
  · intro h
    have:(List.range c.sk.toNat).countP (fun x=>betS c x s)=0:=List.countP_eq_zero.2 fun o ho=>by
      rw [h o (List.mem_range.1 ho)];simp
    omega
structure Fur (c:Cup) (F:List (List Int)):Prop where
  len:(F.length:Int)=c.ra-c.done.length
  ok:KL.Valid (withC c F)
section
variable {c:Cup} {F:List (List Int)} {s:Nat}
end
end KV
end Go.Proofs
end
namespace Go.Proofs
namespace KV
section
open KL
theorem table_perm(c:Cup):(tableM c).Perm ((List.range c.sk.toNat).map (rowT c)):=isort_perm _ _
theorem table_row(c:Cup){i:Nat}(hi:i<(tableM c).length):∃ k,k<c.sk.toNat∧(tableM c)[i]? = some (rowT c k):=by
  have h:=(table_perm c).mem_iff.1 (List.getElem_mem hi)
  obtain ⟨k,hk,e⟩:=List.mem_map.1 h
  exact ⟨k,List.mem_range.1 hk,by rw [List.getElem?_eq_getElem hi,e]⟩
end
section
end
section
open KL
def outB(n a b:Int):Bool:=decide (n<a) || decide (b<n)
theorem falls_any(pts:List Int):KL.fallsB pts = !((List.range (pts.length-1)).any fun j=>decide (pts.getD j 0<pts.getD (j+1) 0)):=by
  unfold KL.fallsB KL.sortedB
  rw [Bool.eq_iff_iff]
  simp only [decide_eq_true_eq,Bool.not_eq_true',List.any_eq_false,List.mem_range,decide_eq_true_eq,Int.not_lt]
  constructor
  · intro h j hj
    have:=h j hj
    unfold KL.cmpDown KL.cmpI at this
    split at this
    · omega
    · split at this <;> omega
  · intro h j hj
    have:=h j hj
    unfold KL.cmpDown KL.cmpI
    repeat' split
    all_goals omega
end
section
open KL
def cntI(c:Cup)(s:Nat)(p:Int):Nat:=c.done.countP fun r=>decide (r.getD s 0=p)
theorem rkL_len(c:Cup)(r n:Nat):(rkL c r n).length≤n:=by
  unfold rkL
  rw [List.length_map]
  exact Nat.le_trans (List.length_filter_le _ _) (by simp)
theorem tabR_len(c:Cup):∀ n,(tabR c n).length≤n*c.sk.toNat
  | 0=>by simp [tabR]
  | n+1=>by
    rw [tabR_succ,List.length_append,Nat.succ_mul]
    have:=rkL_len c n c.sk.toNat
    have:=tabR_len c n
    omega
def grtB(c:Cup)(k:Int):Bool:=(decide (k<c.sk) && decide (c.sk≤12)) || decide (65<c.pts.length) || decide (25<c.done.length) || c.done.any fun r=>decide (16<r.length)
end
section
open KL
theorem totalsUp_succ(c:Cup)(n:Nat):KL.totalsUp c (n+1)=KL.totalsUp c n++[totalM c n]:=by
  unfold KL.totalsUp
  rw [List.range_succ,List.map_append];rfl
end
section
open KL
theorem small_with{c:Cup}{f:List (List Int)}(hS:KL.Small (withC c f)):c.done.length+f.length≤1000∧∀ r∈c.done++f,r.length≤1000:=by
  have:=hS.done
  rw [show (withC c f).done=c.done++f from rfl,List.length_append] at this
  exact ⟨this,hS.rows⟩
theorem after3_ok(c:Cup)(f:List (List Int))(hV:KL.Valid c)(hW:KL.Valid (withC c f)){base:Nat}:FV Tryz.prog 44 [.p (cupP c),.p (rowsP f)] base (.tup [.p (cupP (withC c f)),.p (intP 0)]) []:=by
  obtain ⟨q1,q2⟩:=small_with hW.small
  have d1:=hW.dn
  have d2:=hW.ra2
  rw [show (withC c f).done=c.done++f from rfl,List.length_append] at d1
  rw [show (withC c f).ra=c.ra from rfl] at d1 d2
  exact after_ok c f hV (by omega) hW
theorem tableM_uni(c:Cup):uni 4 (tableM c):=by rw [table_ref];exact tabR_uni c _
theorem tableM_len{c:Cup}(hV:KL.Valid c):(tableM c).length≤144:=by
  have s2:=hV.sk2
  have s1:=hV.sk1
  rw [table_ref]
  exact Nat.le_trans (tabR_len c _) (Nat.mul_le_mul (show c.sk.toNat≤12 by omega) (show c.sk.toNat≤12 by omega))
end
section
open KL Go.RowKit Go.Lib Go.Sort Go.Shelf
noncomputable abbrev zU10c0:Code:=sub (cd Tryz.f152) [1,0,1,0,0]
noncomputable abbrev zU10c1:Code:=sub (cd Tryz.f163) [1,1,0,1,0,0]
theorem zU10q0:((0:Int) != (0:Int))=false:=by first | decide | simp
theorem pure162:KL.PureI Tryz.prog 162 KL.nz:=by
  refine ⟨enters_of Tryz.func162 (by kernel_rfl) rfl,fun W x => ?_⟩
  by_cases h:x=0
  · have hh:=hid (show KL.nz x=true by simp [KL.nz,h])
    have hx:(x == 0)=true:=by simp [h]
    have h':=hid h
    clear h
    go_enter Tryz.func162,Tryz.ntmps162
    go_wp2
    go_ret
    exact ⟨ret_bool hh.out.symm,rfl⟩
  · have hh:=hid (show KL.nz x=false by simp [KL.nz,h])
    have hx:(x == 0)=false:=by simp [h]
    have h':=hid h
    clear h
    go_enter Tryz.func162,Tryz.ntmps162
    go_wp2
    go_ret
    exact ⟨ret_bool hh.out.symm,rfl⟩
theorem del162_ok(l:List Int)(hl:l.length≤1000):FMM Tryz.prog 153 [.own 0,.fn 162 [] []] [some (.row 3 l.length (l.map intP))] (.own 1) [some .dead,some (.row 3 (l.filter fun x => !KL.nz x).length ((l.filter fun x => !KL.nz x).map intP))]:=deleteI_ok pure162 l hl
theorem rigPs_ints:∀ l:List Int,rigPs (l.map intP)=true
  | []=>rfl
  | x::l=>by rw [List.map_cons,rigPs,rigPs_ints l];rfl
theorem rigU_ints(b ty n:Nat)(l:List Int):rigU [(b,.row ty n (l.map intP))]=true:=by
  rw [rigU,rigPs_ints];rfl
def cpt_S0(l:List Int)(k:Nat):St:=⟨fr 61 [(0,(.own 0)),(3,(.p (intP (k:Int))))],[some (.row 3 l.length (l.map intP))]⟩
theorem cpt_p0{l:List Int}(h0:(l.length:Int)<(2:Int)):FMM Tryz.prog 163 [(.own 0)] [some (.row 3 l.length (l.map intP))] (.own 0) [some (.row 3 l.length (l.map intP))]:=by
  exact FMM.fin (k:=1) (g:=⟨[],[],[],[]⟩) rfl Tryz.func163 rfl (o:=[bT]) (l:=[_]) (by kernel_rfl) (gc (q_lt h0) gn)
theorem cpt_p1{l:List Int}{k'0:Nat}(h0:(2:Int)≤(l.length:Int))(hl1:LoopOK Tryz.prog 1 zU10c1 (cpt_S0 l 1) (.exit 0) (cpt_S0 l k'0)):FMM Tryz.prog 163 [(.own 0)] [some (.row 3 l.length (l.map intP))] (.own 0) [some (.row 3 l.length (l.map intP))]:=by
  exact FMM.fin (k:=1) (g:=⟨[],[],[],[]⟩) rfl Tryz.func163 rfl (o:=[bF,.k 4 ⟨(rng [(1,2),(4,56)]),[],[],[]⟩ (.exit 0) (cpt_S0 l k'0)]) (l:=[_,_]) (by kernel_rfl) (gc hl1.code (gc (q_ltF h0) gn))
theorem cpt_L0_p0{l:List Int}{k:Nat}{x100 x101:Int}{k':Nat}(h0:(k:Int)<(l.length:Int))(h1:l[k]? = some x100)(h2:inR ((k:Int)-(1:Int)))(h3:l[((k:Int)-(1:Int)).toNat]? = some x101)(h4:0≤((k:Int)-(1:Int)))(h5:x100≠x101)(h6:inR (((k+1):Nat):Int))(ek':k'=(k+1)):CodeOK Tryz.prog 1 zU10c1 (cpt_S0 l k) .normal (cpt_S0 l k'):=by
  subst ek'
  exact CodeOK.fin (g:=⟨(rng [(1,2),(4,56)]),[],[],[]⟩) (o:=[bT,.x (intP x100),.x (intP x101),bF]) (l:=[_,_,(l.map intP)[(((k:Int)-(1:Int)).toNat*1)]? = some (intP x101),_,_,_,_,_]) (by kernel_rfl) (gc h6 (gc (q_ne h5) (gc (at_map (i:=((k:Int)-(1:Int)).toNat) h3) (gc (ix_own (i:=((k:Int)-(1:Int))) h4 h3) (gc h2 (gc (atm intP h1) (gc (ix_own (i:=(k:Int)) (Int.natCast_nonneg _) h1) (gc (q_lt h0) gn))))))))
theorem cpt_L0_p1{l:List Int}{k:Nat}(h0:(l.length:Int)≤(k:Int)):CodeOK Tryz.prog 1 zU10c1 (cpt_S0 l k) (.exit 0) (cpt_S0 l k):=by
  exact CodeOK.fin (g:=⟨(rng [(1,2),(4,56)]),[],[],[]⟩) (o:=[bF]) (l:=[_]) (by kernel_rfl) (gc (q_ltF h0) gn)
theorem cpt_ok(l:List Int)(hl:l.length≤1000)(hd:l.Nodup):FMM Tryz.prog 163 [.own 0] [some (.row 3 l.length (l.map intP))] (.own 0) [some (.row 3 l.length (l.map intP))]:=by
  have atD:∀ (j:Nat),j<l.length→l[j]? = some (l.getD j 0):=fun j hj=>by
    rw [List.getElem?_eq_getElem hj,List.getD_eq_getElem?_getD,List.getElem?_eq_getElem hj];rfl
  have ne:∀ j,j+1<l.length→l.getD (j+1) 0≠l.getD j 0:=fun j hj e=>by
    rw [List.getD_eq_getElem?_getD,List.getD_eq_getElem?_getD,List.getElem?_eq_getElem hj,List.getElem?_eq_getElem (by omega)] at e
    exact List.pairwise_iff_getElem.1 hd j (j+1) (by omega) hj (by omega) e.symm
  by_cases h2:l.length<2
  · exact cpt_p0 (by omega)
  · have h:=LoopOK.count (P:=Tryz.prog) (k:=1) (b:=zU10c1) (e := .exit 0) (R:=cpt_S0 l l.length) (l.length-1) (fun i=>cpt_S0 l (i+1))
      (fun i hi=>by
        have e:(((i+1:Nat):Int)-1).toNat=i:=by omega
        exact cpt_L0_p0 (x101:=l.getD i 0) (by omega) (atD _ (by omega)) (by unfold inR;omega) (by rw [e];exact atD _ (by omega)) (by omega) (ne i (by omega)) (inR_nat (by omega)) rfl)
      (by rw [show l.length-1+1=l.length by omega];exact cpt_L0_p1 (by omega)) (by simp)
    exact cpt_p1 (by omega) h
theorem pln_p0{l:List Int}{r0:Bool}(h0:l.length≤1000)(h1:(l.filter fun x => !KL.nz x).length≤1000)(h2:((l.filter fun x => !KL.nz x).mergeSort KL.leB).length≤1000)(h3:((l.filter fun x => !KL.nz x).mergeSort KL.leB).Nodup)(er0:r0=(((((l.filter fun x => !KL.nz x).mergeSort KL.leB).length:Nat):Int) == ((((l.filter fun x => !KL.nz x).mergeSort KL.leB).length:Nat):Int))){base:Nat}:FV Tryz.prog 136 [(.p (intsP l))] base (.p (blP r0)) []:=by
  subst er0
  exact FV.fin Tryz.func136 rfl (o:=[.c (.own 0) [(0,(.row 3 l.length (l.map intP)))],.c (.own 1) [(0,.dead),(1,(.row 3 ((l.filter fun x => !KL.nz x).length) ((l.filter fun x => !KL.nz x).map intP)))],.c (.tup []) [(1,(.row 3 (((l.filter fun x => !KL.nz x).mergeSort KL.leB).length) (((l.filter fun x => !KL.nz x).mergeSort KL.leB).map intP)))],.c (.own 2) [(2,(.row 3 (((l.filter fun x => !KL.nz x).mergeSort KL.leB).length) (((l.filter fun x => !KL.nz x).mergeSort KL.leB).map intP)))],.c (.own 2) [(2,(.row 3 (((l.filter fun x => !KL.nz x).mergeSort KL.leB).length) (((l.filter fun x => !KL.nz x).mergeSort KL.leB).map intP)))]]) (l:=[FC Tryz.prog 163 [(.own 2)] [(2,(.row 3 (((l.filter fun x => !KL.nz x).mergeSort KL.leB).length) (((l.filter fun x => !KL.nz x).mergeSort KL.leB).map intP)))] 3 (.own 2) [(2,(.row 3 (((l.filter fun x => !KL.nz x).mergeSort KL.leB).length) (((l.filter fun x => !KL.nz x).mergeSort KL.leB).map intP)))],FC Tryz.prog 150 [(.own 1)] [(1,(.row 3 (((l.filter fun x => !KL.nz x).mergeSort KL.leB).length) (((l.filter fun x => !KL.nz x).mergeSort KL.leB).map intP)))] 2 (.own 2) [(2,(.row 3 (((l.filter fun x => !KL.nz x).mergeSort KL.leB).length) (((l.filter fun x => !KL.nz x).mergeSort KL.leB).map intP)))],FC Tryz.prog 84 [(.own 1)] [(1,(.row 3 ((l.filter fun x => !KL.nz x).length) ((l.filter fun x => !KL.nz x).map intP)))] 2 (.tup []) [(1,(.row 3 (((l.filter fun x => !KL.nz x).mergeSort KL.leB).length) (((l.filter fun x => !KL.nz x).mergeSort KL.leB).map intP)))],FC Tryz.prog 153 [(.own 0),(.fn 162 [] [])] [(0,(.row 3 l.length (l.map intP)))] 1 (.own 1) [(0,.dead),(1,(.row 3 ((l.filter fun x => !KL.nz x).length) ((l.filter fun x => !KL.nz x).map intP)))],_]) (by kernel_rfl) (gc (FMM.fc (ids:=[2]) (cpt_ok ((l.filter fun x => !KL.nz x).mergeSort KL.leB) h2 h3) (by kernel_rfl)) (gc (FV.view (args':=[(.p (intsP ((l.filter fun x => !KL.nz x).mergeSort KL.leB)))]) (cloneI_ok ((l.filter fun x => !KL.nz x).mergeSort KL.leB) h2) (by kernel_rfl) (by kernel_rfl) (rigU_ints _ _ _ _)) (gc (FMM.fc (ids:=[1]) (sortI_ok (l.filter fun x => !KL.nz x) h1) (by kernel_rfl)) (gc (FMM.fc (ids:=[0]) (del162_ok l h0) (by kernel_rfl)) (gc (fk 0 (cloneI_ok l h0) rfl) gn)))))
def NSh(r:List Int):Prop:=∀ p:Int,p≠0→r.count p≤1
theorem NSh.nodup{r:List Int}(h:NSh r):(r.filter fun x => !KL.nz x).Nodup:=by
  rw [List.nodup_iff_count]
  intro a
  by_cases e:a=0
  · subst e
    rw [List.count_eq_zero.2 (fun hm=>by have:=(List.mem_filter.1 hm).2;simp [KL.nz] at this)]
    omega
  · rw [List.count_filter (by simp [KL.nz,e])]
    exact h a e
theorem plain_ok(l:List Int)(hl:l.length≤1000∧NSh l){base:Nat}:FV Tryz.prog 136 [.p (intsP l)] base (.p (blP true)) []:=by
  have h1:(l.filter fun x => !KL.nz x).length≤1000:=Nat.le_trans (List.length_filter_le _ _) hl.1
  exact pln_p0 hl.1 h1 (by rw [List.length_mergeSort];exact h1) ((List.mergeSort_perm _ _).nodup_iff.2 hl.2.nodup) (by simp)
def plT(_:List Int):Bool:=true
theorem plainT_ok(l:List Int)(hl:l.length≤1000∧NSh l){base:Nat}:FV Tryz.prog 136 [.p (intsP l)] base (.p (blP (plT l))) []:=plain_ok l hl
theorem all136N_p0{x:List Int}{r0:Bool}(h0:x.length≤1000∧NSh x)(er0:r0=(!(plT x))):FMM Tryz.prog 151 [(.p (intsP x)),(.ptr 0 0)] [some (.box 93 [(.fn 136 [] [])])] (.p (blP r0)) [some (.box 93 [(.fn 136 [] [])])]:=by
  subst er0
  exact FMM.fin (k:=1) (g:=⟨[],[],[],[]⟩) rfl Tryz.func151 rfl (o:=[.c (.p (blP (plT x))) []]) (l:=[_]) (by kernel_rfl) (gc (fk 1 (plainT_ok x h0) rfl) gn)
theorem all136N_ok(x:List Int)(he:x.length≤1000∧NSh x):FMM Tryz.prog 151 [(.p (intsP x)),.ptr 0 0] [some (.box 93 [(.fn 136 [] [])])] (.p (blP (!(plT x)))) [some (.box 93 [(.fn 136 [] [])])]:=all136N_p0 he rfl
def all136I_S0(l:List (List Int))(i:Nat):St:=⟨fr 19 [(0,(.p (rowsP l))),(1,(.fn 151 [] [(.ptr 0 0)])),(7,(.p (intP (l.length:Int)))),(8,(.p (intP (i:Int))))],[some (.box 93 [(.fn 136 [] [])])]⟩
theorem all136I_p0{l:List (List Int)}{i'0:Nat}(hl0:LoopOK Tryz.prog 1 zU10c0 (all136I_S0 l 0) (.exit 0) (all136I_S0 l i'0)):FMM Tryz.prog 152 [(.p (rowsP l)),(.fn 151 [] [(.ptr 0 0)])] [some (.box 93 [(.fn 136 [] [])])] (.p (intP (-1:Int))) [some (.box 93 [(.fn 136 [] [])])]:=by
  exact FMM.fin (k:=1) (g:=⟨[],[],[],[]⟩) rfl Tryz.func152 rfl (o:=[.k 6 ⟨(rng [(2,5),(9,10)]),[],[],[]⟩ (.exit 0) (all136I_S0 l i'0)]) (l:=[_]) (by kernel_rfl) (gc hl0.code gn)
theorem all136I_p1{l:List (List Int)}{i'0:Nat}(hl0:LoopOK Tryz.prog 1 zU10c0 (all136I_S0 l 0) .ret (setS (all136I_S0 l i'0) [(4,(.p (intP (i'0:Int))))])):FMM Tryz.prog 152 [(.p (rowsP l)),(.fn 151 [] [(.ptr 0 0)])] [some (.box 93 [(.fn 136 [] [])])] (.p (intP (i'0:Int))) [some (.box 93 [(.fn 136 [] [])])]:=by
  exact FMM.fin (k:=1) (g:=⟨[],[],[],[]⟩) rfl Tryz.func152 rfl (o:=[.k 6 ⟨(rng [(2,5),(9,10)]),[],[],[]⟩ .ret (setS (all136I_S0 l i'0) [(4,(.p (intP (i'0:Int))))])]) (l:=[_]) (by kernel_rfl) (gc hl0.code gn)
theorem all136I_L0_p0{l:List (List Int)}{i:Nat}{x100:List Int}(h0:(i:Int)<(l.length:Int))(h1:l[i]? = some x100)(h2:x100.length≤1000∧NSh x100)(h3:(plT x100)=false):CodeOK Tryz.prog 1 zU10c0 (all136I_S0 l i) .ret (setS (all136I_S0 l i) [(4,(.p (intP (i:Int))))]):=by
  exact CodeOK.fin (g:=⟨(rng [(2,2),(5,2),(9,10)]),[],[],[]⟩) (o:=[bT,.x (intsP x100),.c (.p (blP (!(plT x100)))) [(0,(.box 93 [(.fn 136 [] [])]))],bT]) (l:=[_,FC Tryz.prog 151 [(.p (intsP x100)),(.ptr 0 0)] [(0,(.box 93 [(.fn 136 [] [])]))] 1 (.p (blP (!(plT x100)))) [(0,(.box 93 [(.fn 136 [] [])]))],_,_,_]) (by kernel_rfl) (gc (q_not h3) (gc (FMM.fc (ids:=[0]) (all136N_ok x100 h2) (by kernel_rfl)) (gc (atm intsP h1) (gc (ixn intsP h1) (gc (q_lt h0) gn)))))
theorem all136I_L0_p1{l:List (List Int)}{i:Nat}{x100:List Int}{i':Nat}(h0:(i:Int)<(l.length:Int))(h1:l[i]? = some x100)(h2:x100.length≤1000∧NSh x100)(h3:(plT x100)=true)(h4:inR (((i+1):Nat):Int))(ei':i'=(i+1)):CodeOK Tryz.prog 1 zU10c0 (all136I_S0 l i) .normal (all136I_S0 l i'):=by
  subst ei'
  exact CodeOK.fin (g:=⟨(rng [(2,5),(9,10)]),[],[],[]⟩) (o:=[bT,.x (intsP x100),.c (.p (blP (!(plT x100)))) [(0,(.box 93 [(.fn 136 [] [])]))],bF]) (l:=[_,_,FC Tryz.prog 151 [(.p (intsP x100)),(.ptr 0 0)] [(0,(.box 93 [(.fn 136 [] [])]))] 1 (.p (blP (!(plT x100)))) [(0,(.box 93 [(.fn 136 [] [])]))],_,_,_]) (by kernel_rfl) (gc h4 (gc (q_notF h3) (gc (FMM.fc (ids:=[0]) (all136N_ok x100 h2) (by kernel_rfl)) (gc (atm intsP h1) (gc (ixn intsP h1) (gc (q_lt h0) gn))))))
theorem all136I_L0_p2{l:List (List Int)}{i:Nat}(h0:(l.length:Int)≤(i:Int)):CodeOK Tryz.prog 1 zU10c0 (all136I_S0 l i) (.exit 0) (all136I_S0 l i):=by
  exact CodeOK.fin (g:=⟨(rng [(2,5),(9,10)]),[],[],[]⟩) (o:=[bF]) (l:=[_]) (by kernel_rfl) (gc (q_ltF h0) gn)
theorem all136I_ok(l:List (List Int))(hl:small l.length)(he:∀ x∈l,x.length≤1000∧NSh x):FMM Tryz.prog 152 [.p (rowsP l),(.fn 151 [] [(.ptr 0 0)])] [some (.box 93 [(.fn 136 [] [])])] (.p (intP (idxF (fun x => !(plT x)) l))) [some (.box 93 [(.fn 136 [] [])])]:=by
  rcases LoopOK.find (P:=Tryz.prog) (k:=1) (b:=sub (cd Tryz.f152) [1,0,1,0,0]) (fun i=>all136I_S0 l i) (fun i _=>setS (all136I_S0 l i) [(4,.p (intP (i:Int)))]) (all136I_S0 l l.length) .ret (.exit 0) (by simp) (by simp) (fun x => !(plT x)) l
    (fun i x hx hp=>all136I_L0_p1 (by have:=lt_of_at hx;omega) hx (he x (List.mem_of_getElem? hx)) (by simpa using hp) (inR_nat (by have:=lt_of_at hx;omega)) rfl)
    (fun i x hx hp=>all136I_L0_p0 (by have:=lt_of_at hx;omega) hx (he x (List.mem_of_getElem? hx)) (by simpa using hp))
    (all136I_L0_p2 (l:=l) (i:=l.length) (by omega)) with ⟨i,x,h1,h2,h3,h4⟩ | ⟨h1,h2,h3⟩
  · rw [idxF_some h2];exact all136I_p1 h4
  · rw [idxF_none h1];exact all136I_p0 h3
theorem all136C_p0{l:List (List Int)}{r0:Bool}(h0:small l.length)(h1:∀ x∈l,x.length≤1000∧NSh x)(er0:r0=(decide ((idxF (fun x => !(plT x)) l) ≥ (0:Int)))):FMM Tryz.prog 122 [(.p (rowsP l)),(.fn 151 [] [(.ptr 0 0)])] [some (.box 93 [(.fn 136 [] [])])] (.p (blP r0)) [some (.box 93 [(.fn 136 [] [])])]:=by
  subst er0
  exact FMM.fin (k:=1) (g:=⟨[],[],[],[]⟩) rfl Tryz.func122 rfl (o:=[.c (.p (intP (idxF (fun x => !(plT x)) l))) [(0,(.box 93 [(.fn 136 [] [])]))]]) (l:=[FC Tryz.prog 152 [(.p (rowsP l)),(.fn 151 [] [(.ptr 0 0)])] [(0,(.box 93 [(.fn 136 [] [])]))] 1 (.p (intP (idxF (fun x => !(plT x)) l))) [(0,(.box 93 [(.fn 136 [] [])]))]]) (by kernel_rfl) (gc (FMM.fc (ids:=[0]) (all136I_ok l h0 h1) (by kernel_rfl)) gn)
theorem all136C_ok(l:List (List Int))(hl:small l.length)(he:∀ x∈l,x.length≤1000∧NSh x):FMM Tryz.prog 122 [.p (rowsP l),(.fn 151 [] [(.ptr 0 0)])] [some (.box 93 [(.fn 136 [] [])])] (.p (blP (l.any fun x => !(plT x)))) [some (.box 93 [(.fn 136 [] [])])]:=all136C_p0 hl he (idxF_any _ _).symm
theorem all136_p0{l:List (List Int)}{r0:Bool}(h0:small l.length)(h1:∀ x∈l,x.length≤1000∧NSh x)(er0:r0=(!(l.any fun x => !(plT x)))){base:Nat}:FV Tryz.prog 117 [(.p (rowsP l)),(.fn 136 [] [])] base (.p (blP r0)) []:=by
  subst er0
  exact FV.fin Tryz.func117 rfl (o:=[.c (.p (blP (l.any fun x => !(plT x)))) [(0,(.box 93 [(.fn 136 [] [])]))]]) (l:=[FC Tryz.prog 122 [(.p (rowsP l)),(.fn 151 [] [(.ptr 0 0)])] [(0,(.box 93 [(.fn 136 [] [])]))] 1 (.p (blP (l.any fun x => !(plT x)))) [(0,(.box 93 [(.fn 136 [] [])]))]]) (by kernel_rfl) (gc (FMM.fc (ids:=[0]) (all136C_ok l h0 h1) (by kernel_rfl)) gn)
theorem all136_ok(l:List (List Int))(hl:small l.length)(he:∀ x∈l,x.length≤1000∧NSh x){base:Nat}:FV Tryz.prog 117 [.p (rowsP l),(.fn 136 [] [])] base (.p (blP (l.all fun x=>plT x))) []:=all136_p0 hl he (by rw [List.all_eq_not_any_not])
theorem named0(c:Cup)(hV:KL.Valid c)(k:Int)(hk:0≤k∧k<c.sk){base:Nat}:FV Tryz.prog 107 [.p (cupP c),.p (intP k)] base (.tup [.p (cupP c),.p (intP 0)]) []:=by
  have:=named_ok c hV.small k (base:=base)
  rwa [named_in hV hk.1 hk.2] at this
theorem shw_p0{c:Cup}{s:Nat}{f:List (List Int)}{r0:Bool}(h0:KL.Valid c)(h1:0≤(s:Int)∧(s:Int)<c.sk)(h2:inR (c.ra-(c.done.length:Int)))(h3:(f.length:Int)=(c.ra-(c.done.length:Int)))(h4:KL.Valid (withC c f))(h5:small f.length)(h6:∀ x∈f,x.length≤1000∧NSh x)(h7:(f.all fun x=>plT x)=true)(h8:((s:Nat):Int)<(withC c f).sk)(er0:r0=((rankM (withC c f) s) == (1:Int))){base:Nat}:FV Tryz.prog 72 [(.p (cupP c)),(.p (intP (s:Int))),(.p (rowsP f))] base (.tup [(.p (blP r0)),(.p (intP 0))]) []:=by
  subst er0
  exact FV.fin Tryz.func72 rfl (o:=[.c (.tup [(.p (cupP c)),(.p (intP 0))]) [],bF,bF,.c (.tup [(.p (.agg [(intP ((withC c f).sk)),(intP ((withC c f).ra)),(intP ((withC c f).be)),(intsP ((withC c f).pts)),(rowsP ((withC c f).done))])),(.p (intP 0))]) [],bF,.c (.p (blP (f.all fun x=>plT x))) [],bF,.c (.p (intP (rankM (withC c f) s))) []]) (l:=[_,_,_,_,_,_,_,_,_]) (by kernel_rfl) (gc (fk 3 (rank_ok (withC c f) h4 s h8) rfl) (gc (q_notF h7) (gc (fk 3 (all136_ok f h5 h6) rfl) (gc zU10q0 (gc (fk 2 (after3_ok c f h0 h4) rfl) (gc (q_neF h3) (gc h2 (gc zU10q0 (gc (fk 1 (named0 c h0 (s:Int) h1) rfl) gn)))))))))
theorem NSh.new{ord:List Int}{n i:Nat}{o:List Int}{pl:Int}{la:List Int}(h:KL.RInv ord n i o pl la)(hin:∀ x∈ord,0≤x∧x.toNat<n){x d:Int}(hx:ord[i]? = some x)(hd:0≤d)(hs:NSh o):NSh (o.set x.toNat (pl+d)):=by
  obtain ⟨x0,x1⟩:=hin x (List.mem_of_getElem? hx)
  have hp1:=h.p1
  have hk:x.toNat<o.length:=by rw [h.len];exact x1
  have hz:=h.zero i x (Nat.le_refl _) hx
  have hno:pl+d∉o:=fun hm=>by
    have:=(h.cl _ hm (by omega)).1
    have:=KL.count_pos' hm
    omega
  intro p hp
  rw [KL.count_setZ hk hz hp]
  by_cases e:pl+d=p
  · subst e;rw [if_pos rfl,List.count_eq_zero.2 hno];omega
  · rw [if_neg e];exact hs p hp
theorem raced2_step{n:Int}{l:List Int}{nx st:Int}{i:Nat}{o:List Int}{pl:Int}{la:List Int}{mx tt:Int}(hI:KL.RInv (shufM n l nx st).1 n.toNat i o pl la)(hns:NSh o)(hi:i<(shufM n l nx st).1.length)(hi2:i≤20)(h0:0≤mx∧mx≤900000000) :
    ∃ (o':List Int) (pl':Int) (la':List Int) (mx' tt':Int),CodeOK Tryz.prog 1 (sub (cd Tryz.f67) [1,1,1,1,0,1,0,0]) (raced_S0 n false l nx st i o.length (o.map intP) pl la.length (la.map intP) mx tt) .normal (raced_S0 n false l nx st (i+1) o'.length (o'.map intP) pl' la'.length (la'.map intP) mx' tt')∧(KL.RInv (shufM n l nx st).1 n.toNat (i+1) o' pl' la'∧NSh o')∧mx≤mx'∧mx'≤mx+4:=by
  obtain ⟨hp,_,_⟩:=shufM_perm n l nx st
  have hnd:(shufM n l nx st).1.Nodup:=(hp.nodup_iff).2 (upL_nodup _)
  have hin:∀ x∈(shufM n l nx st).1,0≤x∧x.toNat<n.toNat:=fun x hx=>upL_mem (hp.mem_iff.1 hx)
  obtain ⟨x,hx⟩:∃ x,(shufM n l nx st).1[i]? = some x:=⟨_,List.getElem?_eq_getElem hi⟩
  obtain ⟨x0,x1⟩:=hin x (List.mem_of_getElem? hx)
  have hol:=hI.len
  have hx2:o[x.toNat]? = some (o[x.toNat]'(by omega)):=List.getElem?_eq_getElem (by omega)
  have hx3:(x.toNat*1)<(o.map intP).length:=by simp;omega
  have hp1:=hI.p1
  have hp2:=hI.p2
  have hll:=hI.ll
  have hri:inR (((i+1:Nat):Int)):=inR_nat (by omega)
  have hi':(i:Int)<(((shufM n l nx st).1.length:Nat):Int):=by omega
  have b7:=coinM_bd 7 l mx tt
  have fin:∀ d:Int,0≤d→d≤2→KL.RInv (shufM n l nx st).1 n.toNat (i+1) (o.set x.toNat (pl+d)) (pl+d+1) [x]:=fun d h1 h2=>hI.new hnd hin hx ⟨h1,h2⟩
  have fin0:KL.RInv (shufM n l nx st).1 n.toNat (i+1) (o.set x.toNat pl) (pl+1) [x]:=by have:=fin 0 (by omega) (by omega);rwa [show pl+0=pl by omega] at this
  have fns:∀ d:Int,0≤d→NSh (o.set x.toNat (pl+d)):=fun d h1=>NSh.new hI hin hx h1 hns
  have fns0:NSh (o.set x.toNat pl):=by have:=fns 0 (by omega);rwa [show pl+0=pl by omega] at this
  cases h3:(coinM 7 l mx tt).1 with
  | true=>exact ⟨o,pl,la,_,_,raced_L0_p0 hi' hx (by omega) h3 hri rfl rfl rfl,⟨hI.skip,hns⟩,by omega,by omega⟩
  | false =>
    obtain ⟨m1,hm1⟩:∃ m,m=(coinM 7 l mx tt).2.1:=⟨_,rfl⟩
    obtain ⟨t1,ht1⟩:∃ t,t=(coinM 7 l mx tt).2.2:=⟨_,rfl⟩
    rw [← hm1] at b7
    have b5:=coinM_bd 5 l m1 t1
    have b4:=coinM_bd 4 l m1 t1
    have b3:=drawM_bd 3 l (coinM 5 l m1 t1).2.1 (coinM 5 l m1 t1).2.2
    cases h6:(coinM 5 l m1 t1).1 with
    | true =>
      refine ⟨_,_,[x],_,_,raced_L0_p6 (o':=o.set x.toNat (pl+(drawM 3 l (coinM 5 l m1 t1).2.1 (coinM 5 l m1 t1).2.2).1)) (la':=[x]) hi' hx (by omega) h3 rfl (by rw [← hm1];omega) (by rw [← hm1,← ht1];exact h6) (by rw [← hm1,← ht1];omega) (by rw [← hm1,← ht1];unfold inR;omega) hx2 x0 hx3 (by rw [← hm1,← ht1];unfold inR;omega) hri rfl (by simp) (by rw [← hm1,← ht1];simp [List.map_set]) rfl rfl rfl rfl rfl,?_,?_,?_⟩
      · rw [← hm1,← ht1];exact ⟨fin _ b3.1 (by omega),fns _ b3.1⟩
      · rw [← hm1,← ht1];omega
      · rw [← hm1,← ht1];omega
    | false =>
      refine ⟨_,_,[x],_,_,raced_L0_p7 (o':=o.set x.toNat pl) (la':=[x]) hi' hx (by omega) h3 rfl (by rw [← hm1];omega) (by rw [← hm1,← ht1];exact h6) hx2 x0 hx3 (by unfold inR;omega) hri rfl (by simp) (by simp [List.map_set]) rfl rfl rfl rfl rfl,⟨fin0,fns0⟩,?_,?_⟩
      · rw [← hm1,← ht1];omega
      · rw [← hm1,← ht1];omega
theorem raced2_loop{n:Int}{l:List Int}{nx st:Int}(hn:(shufM n l nx st).1.length≤15):∀ (k i:Nat) (o:List Int) (pl:Int) (la:List Int) (mx tt:Int),KL.RInv (shufM n l nx st).1 n.toNat i o pl la→NSh o→i+k=(shufM n l nx st).1.length→0≤mx→mx+4*k≤900000000 →
    ∃ (o':List Int) (pl':Int) (la':List Int) (mx' tt':Int),LoopOK Tryz.prog 1 (sub (cd Tryz.f67) [1,1,1,1,0,1,0,0]) (raced_S0 n false l nx st i o.length (o.map intP) pl la.length (la.map intP) mx tt) (.exit 0) (raced_S0 n false l nx st (i+k) o'.length (o'.map intP) pl' la'.length (la'.map intP) mx' tt')∧(KL.RInv (shufM n l nx st).1 n.toNat (i+k) o' pl' la'∧NSh o')∧mx≤mx'∧mx'≤mx+4*k
  | 0,i,o,pl,la,mx,tt,h,hs,hk,h0,h1=>⟨o,pl,la,mx,tt,.exit (raced_L0_p8 (by omega)) (by simp),⟨h,hs⟩,by omega,by omega⟩
  | k+1,i,o,pl,la,mx,tt,h,hs,hk,h0,h1=>by
    obtain ⟨o1,pl1,la1,m1,t1,c1,⟨i1,s1⟩,b1,b2⟩:=raced2_step (tt:=tt) h hs (by omega) (by omega) ⟨h0,by omega⟩
    obtain ⟨o2,pl2,la2,m2,t2,c2,i2,b3,b4⟩:=raced2_loop hn k (i+1) o1 pl1 la1 m1 t1 i1 s1 (by omega) (by omega) (by omega)
    rw [show i+1+k=i+(k+1) by omega] at c2 i2
    exact ⟨o2,pl2,la2,m2,t2,.step c1 c2,i2,by omega,by omega⟩
theorem raced2_ex(n:Int)(l:List Int)(nx st:Int)(h:0≤nx∧nx≤1000000)(hn:0≤n∧n≤15):∃ r:List Int × Int × Int,FMM Tryz.prog 67 [.ptr 0 0,.p (intP n),.kb false] [some (deckO l nx st)] (.own 1) [some (deckO l r.2.1 r.2.2),some (.row 3 r.1.length (r.1.map intP))]∧(KL.RaceOK n.toNat r.1∧NSh r.1)∧nx≤r.2.1∧r.2.1≤nx+100:=by
  obtain ⟨hp,b1,b2⟩:=shufM_perm n l nx st
  have hl:(shufM n l nx st).1.length=n.toNat:=by rw [hp.length_eq];simp [upL]
  obtain ⟨o,pl,la,mx,tt,hL,⟨hI,hN⟩,b3,b4⟩:=raced2_loop (l:=l) (nx:=nx) (st:=st) (n:=n) (by omega) n.toNat 0 (List.replicate n.toNat 0) 1 [] (shufM n l nx st).2.1 (shufM n l nx st).2.2 KL.RInv.start (fun p hp=>by rw [List.count_replicate];split <;> simp_all) (by omega) (by omega) (by omega)
  refine ⟨(o,mx,tt),FMM.kb (raced_p0 (by omega) h (by omega) (i'0:=n.toNat) (pl'2:=pl) (la'3:=la) (o'1:=o) (mx'4:=mx) (tt'5:=tt) ?_),⟨hI.race (by omega),hN⟩,by dsimp only;omega,by dsimp only;omega⟩
  rw [List.length_replicate,List.map_replicate,Nat.zero_add] at hL
  exact hL
open Classical in
noncomputable def racedN(n:Int)(l:List Int)(nx st:Int):List Int × Int × Int:=if h:(0≤nx∧nx≤1000000)∧0≤n∧n≤15 then Classical.choose (raced2_ex n l nx st h.1 h.2) else ([],nx,st)
theorem racedN_spec(n:Int)(l:List Int)(nx st:Int)(h:0≤nx∧nx≤1000000)(hn:0≤n∧n≤15):FMM Tryz.prog 67 [.ptr 0 0,.p (intP n),.kb false] [some (deckO l nx st)] (.own 1) [some (deckO l (racedN n l nx st).2.1 (racedN n l nx st).2.2),some (.row 3 (racedN n l nx st).1.length ((racedN n l nx st).1.map intP))]∧(KL.RaceOK n.toNat (racedN n l nx st).1∧NSh (racedN n l nx st).1)∧nx≤(racedN n l nx st).2.1∧(racedN n l nx st).2.1≤nx+100:=by
  unfold racedN
  rw [dif_pos ⟨h,hn⟩]
  exact Classical.choose_spec (raced2_ex n l nx st h hn)
theorem raced2_eq{r:List Int}{nx' st':Int}(n:Int)(l:List Int)(nx st:Int)(h:0≤nx∧nx≤1000000)(hn:0≤n∧n≤15)(e:racedN n l nx st=(r,nx',st')):FMM Tryz.prog 67 [.ptr 0 0,.p (intP n),.kb false] [some (deckO l nx st)] (.own 1) [some (deckO l nx' st'),some (.row 3 r.length (r.map intP))]:=by
  have:=(racedN_spec n l nx st h hn).1
  rw [e] at this
  exact this
structure FurN (c:Cup) (F:List (List Int)):Prop where
  fur:Fur c F
  ns:∀ x∈F,NSh x
theorem shows_ok(c:Cup)(s:Nat)(f:List (List Int))(hV:KL.Valid c)(hs:(s:Int)<c.sk)(hF:FurN c f){base:Nat}:FV Tryz.prog 72 [.p (cupP c),.p (intP (s:Int)),.p (rowsP f)] base (.tup [.p (blP (decide (rankM (withC c f) s=1))),.p (intP 0)]) []:=by
  have d1:=hV.dn
  have r2:=hV.ra2
  have hl:=hF.fur.len
  have hrow:∀ x∈f,x.length≤1000:=fun x hx=>hF.fur.ok.small.rows x (List.mem_append_right _ hx)
  exact shw_p0 hV (by omega) (by unfold inR;omega) hl hF.fur.ok (by unfold small;omega) (fun x hx=>⟨hrow x hx,hF.ns x hx⟩) (by simp [plT]) hs (by rw [Bool.eq_iff_iff];simp)
end
section
open KL
def ptP(pts:List Int)(p:Int):Int:=if p=0 then 0 else pts.getD (p.toNat-1) 0
theorem score_ns{pts r:List Int}(hN:NSh r){o:Nat}(ho:o<r.length):scoreM pts r o=ptP pts (r.getD o 0):=by
  unfold scoreM ptP
  by_cases e:r.getD o 0=0
  · rw [if_pos e,if_pos e]
  · have hm:r.getD o 0∈r:=by rw [List.getD_eq_getElem?_getD,List.getElem?_eq_getElem ho];exact List.getElem_mem _
    have h1:=hN _ e
    have h2:=KL.count_pos' hm
    have hc:r.count (r.getD o 0)=1:=by omega
    rw [if_neg e,if_neg e,hc]
    have hw:=KL.worth_snoc pts (r.getD o 0).toNat 0
    have h0:KL.worthM pts (r.getD o 0).toNat 0=0:=by unfold KL.worthM;simp
    rw [hw,h0];simp
theorem ptP_nn{pts:List Int}(h0:∀ x∈pts,0≤x)(p:Int):0≤ptP pts p:=by
  unfold ptP
  split
  · omega
  · rw [List.getD_eq_getElem?_getD]
    cases e:pts[p.toNat-1]? with
    | none=>simp
    | some x=>exact h0 x (List.mem_of_getElem? e)
def noW(p q:Int):Prop:=q=0∨0<p∧p≤q
theorem ptP_mono{pts:List Int}(hf:KL.fallsB pts=true)(h0:∀ x∈pts,0≤x){p q:Int}(h:noW p q):ptP pts q≤ptP pts p:=by
  rcases h with rfl | ⟨h1,h2⟩
  · unfold ptP;rw [if_pos rfl];exact ptP_nn h0 p
  · unfold ptP
    rw [if_neg (by omega),if_neg (by omega)]
    have:=KL.falls_le hf h0 (q.toNat-1-(p.toNat-1)) (p.toNat-1)
    rwa [show p.toNat-1+(q.toNat-1-(p.toNat-1))=q.toNat-1 by omega] at this
theorem pos_mono{a b:Int}(h:a≤b):pos a≤pos b:=by unfold pos;split <;> split <;> omega
theorem ns_inj{r:List Int}{i j:Nat}(hi:i<r.length):r.count r[i]≤1→∀ hj:j<r.length,r[i]=r[j]→i=j:=by
  intro h hj e
  rcases Nat.lt_trichotomy i j with hl | hl | hl
  · have h1:(r.take j).count r[i] ≥ 1:=List.count_pos_iff.2 (List.mem_take_iff_getElem.2 ⟨i,by omega,rfl⟩)
    have h2:(r.drop j).count r[i] ≥ 1:=List.count_pos_iff.2 (by rw [List.drop_eq_getElem_cons hj,e];exact List.mem_cons_self ..)
    have h3:r.count r[i]=(r.take j).count r[i]+(r.drop j).count r[i]:=by rw [← List.count_append,List.take_append_drop]
    omega
  · exact hl
  · have h1:(r.take i).count r[i] ≥ 1:=List.count_pos_iff.2 (List.mem_take_iff_getElem.2 ⟨j,by omega,e.symm⟩)
    have h2:(r.drop i).count r[i] ≥ 1:=List.count_pos_iff.2 (by rw [List.drop_eq_getElem_cons hi];exact List.mem_cons_self ..)
    have h3:r.count r[i]=(r.take i).count r[i]+(r.drop i).count r[i]:=by rw [← List.count_append,List.take_append_drop]
    omega
section
variable {c:Cup} {r1 r2:List Int} {o s:Nat}
theorem dom_place(hV:KL.Valid c)(hV2:KL.Valid (withC c [r2]))(hN1:NSh r1)(hN2:NSh r2)(hl1:o<r1.length)(hl2:o<r2.length)(h1:0≤r1.getD o 0)(h:noW (r2.getD o 0) (r1.getD o 0)):Dom (withC c [r1]) (withC c [r2]) o:=by
  refine ⟨?_,?_⟩
  · rw [total_top,total_top]
    refine top_mono (srtS_pw _ _) (srtS_nn hV2 o) fun t ht => ?_
    rw [ov_with,ov_with]
    have e1:scR c o r1=ptP c.pts (r1.getD o 0):=score_ns hN1 hl1
    have e2:scR c o r2=ptP c.pts (r2.getD o 0):=score_ns hN2 hl2
    have h3:=ptP_mono hV.falls (fun x hx=>(hV.pts x hx).1) h
    have:ov t ([r1].map (scR c o))≤ov t ([r2].map (scR c o)):=by
      simp only [ov,List.map_cons,List.map_nil,List.sum_cons,List.sum_nil,e1,e2]
      have:=pos_mono (show ptP c.pts (r1.getD o 0)-t≤ptP c.pts (r2.getD o 0)-t by omega)
      omega
    omega
  · have cn:∀ (r:List Int) (p:Nat),cntP [r] o p=if r.getD o 0=(p:Int) then 1 else 0:=fun r p=>by
      unfold cntP
      rw [List.countP_cons,List.countP_nil,Nat.zero_add]
      by_cases e:r.getD o 0=(p:Int)
      · rw [if_pos e,if_pos (decide_eq_true e)]
      · rw [if_neg e,if_neg (by rw [decide_eq_true_eq];exact e)]
    rcases h with h | ⟨h2,h3⟩
    · refine lexGe_of fun p p1 p2 => ?_
      rw [places_with p1 p2,places_with p1 p2,cn,cn,if_neg (c:=r1.getD o 0=(p:Int)) (by omega)]
      omega
    · by_cases e:r2.getD o 0=r1.getD o 0
      · refine .inl fun p p1 p2 => ?_
        rw [places_with p1 p2,places_with p1 p2,cn,cn,e]
      · by_cases h60:r2.getD o 0≤60
        · refine .inr ⟨(r2.getD o 0).toNat,by omega,by omega,?_,fun j j1 j2 => ?_⟩
          · have q1:r2.getD o 0=((r2.getD o 0).toNat:Int):=by omega
            have q2:¬ r1.getD o 0=((r2.getD o 0).toNat:Int):=by omega
            rw [places_with (by omega) (by omega),places_with (by omega) (by omega),cn,cn,if_pos q1,if_neg q2]
            omega
          · rw [places_with j1 (by omega),places_with j1 (by omega),cn,cn,if_neg (by omega),if_neg (by omega)]
        · refine .inl fun p p1 p2 => ?_
          rw [places_with p1 p2,places_with p1 p2,cn,cn,if_neg (by omega),if_neg (by omega)]
theorem race2_at(n:Nat)(p w:Int)(ho:o<n)(hs:s<n)(hne:o≠s):(KL.race2 n o p s w).getD o 0=p∧(KL.race2 n o p s w).getD s 0=w:=by
  unfold KL.race2
  refine ⟨?_,?_⟩
  · rw [List.getD_eq_getElem?_getD,List.getElem?_set_ne (Ne.symm hne),List.getElem?_set_self (by simpa using ho)];rfl
  · rw [List.getD_eq_getElem?_getD,List.getElem?_set_self (by simpa using hs)];rfl
theorem race2_ns{n:Nat}{p w:Int}(hne:p=0∨w=0∨p≠w):NSh (KL.race2 n o p s w):=by
  intro x hx
  unfold KL.race2
  have h1:=KL.count_set_le (l:=(List.replicate n (0:Int)).set o p) (i:=s) (x:=w) (y:=x)
  have h2:=KL.count_set_le (l:=List.replicate n (0:Int)) (i:=o) (x:=p) (y:=x)
  have h3:(List.replicate n (0:Int)).count x=0:=List.count_eq_zero.2 fun h=>hx (List.eq_of_mem_replicate h)
  split at h1 <;> split at h2 <;> omega

structure LastOK (c:Cup) (s:Nat):Prop where
  hv:KL.Valid c
  hd:(c.done.length:Int)<c.ra
  hs:s<c.sk.toNat
structure RaceN (c:Cup) (r:List Int):Prop where
  ok:KL.RaceOK c.sk.toNat r
  ns:NSh r
theorem RaceN.valid(hL:LastOK c s)(h:RaceN c r1):KL.Valid (withC c [r1]):=by
  have:=hL.hv.sk1
  exact KL.valid_race hL.hv hL.hd (by rw [h.ok.len];omega) h.ok.bd h.ok.cl
theorem beats_mono(hL:LastOK c s)(ho:o<c.sk.toNat)(hne:o≠s){p w p' w':Int}(b1:0≤p∧p≤60)(b2:0≤w∧w≤60)(b3:0≤p'∧p'≤60)(b4:0≤w'∧w'≤60)(n1:p=0∨w=0∨p≠w)(n2:p'=0∨w'=0∨p'≠w')
    (hp:noW p' p) (hw:noW w w') (h:beatsM c o p s w=true):beatsM c o p' s w'=true:=by
  have hs:=hL.hs
  obtain ⟨x1,x2⟩:=race2_at c.sk.toNat p w ho hs hne
  obtain ⟨x3,x4⟩:=race2_at c.sk.toNat p' w' ho hs hne
  have v1:=KL.valid_race2 hL.hv hL.hd (o:=o) (s:=s) b1 b2 n1
  have v2:=KL.valid_race2 hL.hv hL.hd (o:=o) (s:=s) b3 b4 n2
  have m1:=race2_ns (n:=c.sk.toNat) (o:=o) (s:=s) n1
  have m2:=race2_ns (n:=c.sk.toNat) (o:=o) (s:=s) n2
  have l1:=KL.race2_length c.sk.toNat o p s w
  have l2:=KL.race2_length c.sk.toNat o p' s w'
  refine betS_dom (dom_place hL.hv v2 m1 m2 (by omega) (by omega) (by omega) (by rw [x1,x3];exact hp)) (dom_place hL.hv v1 m2 m1 (by omega) (by omega) (by omega) (by rw [x2,x4];exact hw)) h
theorem bet_race(hL:LastOK c s)(hr:RaceN c r1)(ho:o<c.sk.toNat)(hne:o≠s):betS (withC c [r1]) o s=beatsM c o (r1.getD o 0) s (r1.getD s 0):=by
  have hs:=hL.hs
  have bd:∀ x,x<c.sk.toNat→0≤r1.getD x 0∧r1.getD x 0≤60:=fun x hx=>by
    rw [List.getD_eq_getElem?_getD,List.getElem?_eq_getElem (by rw [hr.ok.len];exact hx)]
    exact hr.ok.bd _ (List.getElem_mem _)
  have b1:=bd o ho
  have b2:=bd s hs
  have n1:r1.getD o 0=0∨r1.getD s 0=0∨r1.getD o 0≠r1.getD s 0:=by
    by_cases e:r1.getD o 0=0
    · exact .inl e
    · refine .inr (.inr fun e2 => ?_)
      have h1:=hr.ns _ e
      have ho':o<r1.length:=by rw [hr.ok.len];exact ho
      have hs':s<r1.length:=by rw [hr.ok.len];exact hs
      rw [List.getD_eq_getElem?_getD,List.getElem?_eq_getElem ho',List.getD_eq_getElem?_getD,List.getElem?_eq_getElem hs'] at e2
      rw [List.getD_eq_getElem?_getD,List.getElem?_eq_getElem ho'] at h1
      exact hne (ns_inj ho' h1 hs' e2)
  obtain ⟨x1,x2⟩:=race2_at c.sk.toNat (r1.getD o 0) (r1.getD s 0) ho hs hne
  have v1:=KL.valid_race2 hL.hv hL.hd (o:=o) (s:=s) b1 b2 n1
  have v2:=hr.valid hL
  have m1:=race2_ns (n:=c.sk.toNat) (o:=o) (s:=s) n1
  have l1:=KL.race2_length c.sk.toNat o (r1.getD o 0) s (r1.getD s 0)
  have lr:=hr.ok.len
  have rf:∀ x:Int,0≤x→noW x x:=fun x hx=>by unfold noW;omega
  have d1:∀ x,(x=o∨x=s)→Dom (withC c [r1]) (withC c [KL.race2 c.sk.toNat o (r1.getD o 0) s (r1.getD s 0)]) x:=fun x hx=>by
    rcases hx with rfl | rfl
    · exact dom_place hL.hv v1 hr.ns m1 (by omega) (by omega) b1.1 (by rw [x1];exact rf _ b1.1)
    · exact dom_place hL.hv v1 hr.ns m1 (by omega) (by omega) b2.1 (by rw [x2];exact rf _ b2.1)
  have d2:∀ x,(x=o∨x=s)→Dom (withC c [KL.race2 c.sk.toNat o (r1.getD o 0) s (r1.getD s 0)]) (withC c [r1]) x:=fun x hx=>by
    rcases hx with rfl | rfl
    · exact dom_place hL.hv v2 m1 hr.ns (by omega) (by omega) (by omega) (by rw [x1];exact rf _ b1.1)
    · exact dom_place hL.hv v2 m1 hr.ns (by omega) (by omega) (by omega) (by rw [x2];exact rf _ b2.1)
  rw [Bool.eq_iff_iff]
  exact ⟨fun h=>betS_dom (d1 o (.inl rfl)) (d2 s (.inr rfl)) h,fun h=>betS_dom (d2 o (.inl rfl)) (d1 s (.inr rfl)) h⟩
end
end
section
open KL
theorem nodup_bd:∀ (n:Nat) (l:List Int),l.Nodup→(∀ x∈l,1≤x∧x≤n)→l.length≤n
  | 0,l,_,h=>by
    cases l with
    | nil=>simp
    | cons x r=>have:=h x (by simp);omega
  | n+1,l,hn,h=>by
    have h1:=nodup_bd n (l.filter fun x=>decide (x≠((n+1:Nat):Int))) (hn.filter _) (fun x hx=>by
      obtain ⟨a,b⟩:=List.mem_filter.1 hx
      have:=h x a
      have:=of_decide_eq_true b
      omega)
    have h2:=List.length_eq_countP_add_countP (l:=l) (fun x=>decide (x≠((n+1:Nat):Int)))
    have h3:l.count ((n+1:Nat):Int)≤1:=List.nodup_iff_count.1 hn _
    have h4:l.countP (fun a=>decide ¬(decide (a≠((n+1:Nat):Int))=true))=l.count ((n+1:Nat):Int):=List.countP_congr fun x _=>by simp
    rw [h4,List.countP_eq_length_filter] at h2
    omega

section
variable {α:Type}
def edS(D:α→Int)(a:Int × Int)(x:α):Int × Int:=if 60<D x then (a.1+1,a.2) else if a.2≤D x then (a.1+1,a.2+1) else a
theorem edf{D q:α→Int}{P:α→Bool}:∀ (R pre:List α) (a n:Int),(pre.countP P:Int)≤a-1→n≤a→(pre++R).Pairwise (fun x y=>D x≤D y)→(∀ x∈pre++R,P x=true→60<D x∨1≤q x∧q x≤D x) →
    (pre++R).Pairwise (fun x y=>P x=true→P y=true→D x≤60→D y≤60→q x≠q y)→((pre++R).countP P:Int)≤(R.foldl (edS D) (a,n)).1-1
  | [],pre,a,n,h1,_,_,_,_=>by simpa using h1
  | x::R,pre,a,n,h1,h2,hs,hq,hd=>by
    have hp:((pre++[x]).countP P:Int)≤pre.countP P+1:=by
      rw [List.countP_append,List.countP_cons,List.countP_nil]
      split <;> omega
    rw [List.append_cons] at hs hq hd ⊢
    rw [List.foldl_cons]
    have IH:=fun a n g1 g2=>edf (D:=D) (q:=q) (P:=P) R (pre++[x]) a n g1 g2 hs hq hd
    unfold edS
    by_cases g1:60<D x
    · rw [if_pos g1];exact IH (a+1) n (by omega) (by omega)
    · rw [if_neg g1]
      by_cases g2:n≤D x
      · rw [if_pos g2];exact IH (a+1) (n+1) (by omega) (by omega)
      · rw [if_neg g2]
        refine IH a n ?_ h2
        have hs1:=(List.pairwise_append.1 hs).1
        have hd1:=(List.pairwise_append.1 hd).1
        have hle:∀ y∈pre++[x],D y≤D x:=fun y hy=>by
          rcases List.mem_append.1 hy with h | h
          · exact (List.pairwise_append.1 hs1).2.2 y h x (by simp)
          · rw [List.mem_singleton.1 h];omega
        have hnd:(((pre++[x]).filter P).map q).Nodup:=by
          refine List.pairwise_map.2 ?_
          refine List.Pairwise.imp_of_mem (fun {y z} hy hz h => ?_) (hd1.filter P)
          obtain ⟨m1,m2⟩:=List.mem_filter.1 hy
          obtain ⟨m3,m4⟩:=List.mem_filter.1 hz
          have:=hle y m1
          have:=hle z m3
          exact h m2 m4 (by omega) (by omega)
        by_cases g3:1≤D x
        · have h3:=nodup_bd (D x).toNat _ hnd (fun v hv=>by
            obtain ⟨y,hy,rfl⟩:=List.mem_map.1 hv
            obtain ⟨m1,m2⟩:=List.mem_filter.1 hy
            have:=hle y m1
            rcases hq y (List.mem_append_left _ m1) m2 with h | h <;> omega)
          rw [List.length_map,← List.countP_eq_length_filter] at h3
          omega
        · have h3:(pre++[x]).countP P=0:=List.countP_eq_zero.2 fun y hy h=>by
            have:=hle y hy
            rcases hq y (List.mem_append_left _ hy) h with h | h <;> omega
          have:(0:Int)≤pre.countP P:=by omega
          omega
end

theorem upto_ge{f:Int→Bool}{p:Int}:∀ (n:Nat) (q:Int),(∀ x,q<x→x≤p→f x=true)→p≤q+n→p≤upto f n q
  | 0,q,_,h=>by unfold upto;omega
  | n+1,q,hf,h=>by
    unfold upto
    by_cases e:p≤q
    · have:=upto_bd f (n+1) q
      unfold upto at this
      omega
    · rw [if_pos (hf (q+1) (by omega) (by omega))]
      exact upto_ge n (q+1) (fun x h1 h2=>hf x (by omega) h2) (by omega)
theorem upto_so{f:Int→Bool}{x:Int}:∀ (n:Nat) (q:Int),q<x→x≤upto f n q→f x=true
  | 0,q,h1,h2=>by unfold upto at h2;omega
  | n+1,q,h1,h2=>by
    unfold upto at h2
    split at h2
    · rename_i h
      by_cases e:x=q+1
      · rw [e];exact h
      · exact upto_so n (q+1) (by omega) h2
    · omega
section
variable {c:Cup} {r:List Int} {o s:Nat}
theorem riv_free(h:60<rivPl c s o):beatsM c o 0 s 0=true:=by
  unfold rivPl at h
  split at h
  · assumption
  · have:=upto_bd (fun p=>beatsM c o p s 0) 60 0;omega
theorem riv_not(h:rivPl c s o≤60):beatsM c o 0 s 0=false:=by
  unfold rivPl at h
  split at h
  · omega
  · rename_i e;exact Bool.eq_false_iff.2 e
theorem riv_so{p:Int}(h0:rivPl c s o≤60)(h1:1≤p)(h2:p≤rivPl c s o):beatsM c o p s 0=true:=by
  unfold rivPl at h0 h2
  split at h0
  · omega
  · rename_i e
    rw [if_neg e] at h2
    exact upto_so (f:=fun p=>beatsM c o p s 0) 60 0 (by omega) h2
theorem riv_ge(hL:LastOK c s)(ho:o<c.sk.toNat)(hne:o≠s){p w:Int}(hp:0≤p∧p≤60)(hw:0≤w∧w≤60)(n1:p=0∨w=0∨p≠w)(h:beatsM c o p s w=true):60<rivPl c s o∨1≤p∧p≤rivPl c s o:=by
  have h1:beatsM c o p s 0=true:=beats_mono hL ho hne hp hw hp ⟨by omega,by omega⟩ n1 (.inr (.inl rfl)) (by unfold noW;omega) (by unfold noW;omega) h
  by_cases e:p=0
  · subst e
    left
    unfold rivPl
    rw [if_pos h1];omega
  · by_cases g:60<rivPl c s o
    · exact .inl g
    · refine .inr ⟨by omega,?_⟩
      have hf:=riv_not (c:=c) (s:=s) (o:=o) (by omega)
      unfold rivPl
      rw [if_neg (by rw [hf];simp)]
      refine upto_ge 60 0 (fun x h2 h3 => ?_) (by omega)
      exact beats_mono hL ho hne hp ⟨by omega,by omega⟩ ⟨by omega,by omega⟩ ⟨by omega,by omega⟩ (.inr (.inl rfl)) (.inr (.inl rfl)) (.inr ⟨by omega,h3⟩) (.inl rfl) h1
def rivB(c:Cup)(s i:Nat):Bool:=decide (i≠s) && decide (0<rivPl c s i)
def rivT(c:Cup)(s i:Nat):List Int:=[(i:Int),rivPl c s i]
theorem rivL_eq(c:Cup)(s:Nat):rivL c s=((List.range c.sk.toNat).filter (rivB c s)).map (rivT c s):=by
  unfold rivL
  induction List.range c.sk.toNat with
  | nil=>rfl
  | cons i l ih =>
    rw [List.flatMap_cons,ih,List.filter_cons]
    unfold rivG rivB
    by_cases e:i=s
    · simp [e]
    · by_cases e2:0<rivPl c s i
      · simp [e,e2,rivT]
      · simp [e,e2]
theorem rivM_perm(c:Cup)(s:Nat):(rivM c s).Perm (((List.range c.sk.toNat).filter (rivB c s)).map (rivT c s)):=by
  rw [← rivL_eq];exact isort_perm _ _
theorem rivM_pw(c:Cup)(s:Nat):(rivM c s).Pairwise fun x y=>x.getD 1 0≤y.getD 1 0 :=
  isort_sorted (f:=fun x:List Int=>x.getD 1 0) (lt:=ltK 1) (fun x y=>cmp_dec _ _) _
theorem rivM_nd(c:Cup)(s:Nat):(rivM c s).Pairwise fun x y=>x.getD 0 0≠y.getD 0 0:=by
  have h:((rivM c s).map fun x=>x.getD 0 0).Nodup:=by
    rw [((rivM_perm c s).map fun x:List Int=>x.getD 0 0).nodup_iff,List.map_map]
    refine List.pairwise_map.2 ((List.pairwise_lt_range.filter _).imp fun {a b} h => ?_)
    show (a:Int)≠b
    omega
  exact List.pairwise_map.1 h
def afB(c:Cup)(r:List Int)(s:Nat)(x:List Int):Bool:=betS (withC c [r]) (x.getD 0 0).toNat s
theorem place_bd(hr:RaceN c r){x:Nat}(hx:x<c.sk.toNat):0≤r.getD x 0∧r.getD x 0≤60:=by
  rw [List.getD_eq_getElem?_getD,List.getElem?_eq_getElem (by rw [hr.ok.len];exact hx)]
  exact hr.ok.bd _ (List.getElem_mem _)
theorem place_ne(hr:RaceN c r)(ho:o<c.sk.toNat)(hs:s<c.sk.toNat)(hne:o≠s):r.getD o 0=0∨r.getD s 0=0∨r.getD o 0≠r.getD s 0:=by
  by_cases e:r.getD o 0=0
  · exact .inl e
  · refine .inr (.inr fun e2 => ?_)
    have h1:=hr.ns _ e
    have ho':o<r.length:=by rw [hr.ok.len];exact ho
    have hs':s<r.length:=by rw [hr.ok.len];exact hs
    rw [List.getD_eq_getElem?_getD,List.getElem?_eq_getElem ho',List.getD_eq_getElem?_getD,List.getElem?_eq_getElem hs'] at e2
    rw [List.getD_eq_getElem?_getD,List.getElem?_eq_getElem ho'] at h1
    exact hne (ns_inj ho' h1 hs' e2)
theorem rank_rivals(hL:LastOK c s)(hr:RaceN c r):rankM (withC c [r]) s=1+((rivM c s).countP (afB c r s):Nat):=by
  rw [rank_ref]
  unfold bttrUp
  rw [(rivM_perm c s).countP_eq,List.countP_map,List.countP_filter]
  congr 2
  refine List.countP_congr fun i hi => ?_
  have hi':i<c.sk.toNat:=List.mem_range.1 hi
  show betS (withC c [r]) i s=true↔_
  have e:(afB c r s ∘ rivT c s) i=betS (withC c [r]) i s:=by
    show betS (withC c [r]) ((i:Int).toNat) s=_
    rw [Int.toNat_natCast]
  rw [e,Bool.and_eq_true]
  refine ⟨fun h=>⟨h,?_⟩,fun h=>h.1⟩
  unfold rivB
  by_cases hne:i=s
  · subst hne;rw [betS_self] at h;cases h
  · rw [bet_race hL hr hi' hne] at h
    have:=riv_ge hL hi' hne (place_bd hr hi') (place_bd hr hL.hs) (place_ne hr hi' hL.hs hne) h
    have h2:0<rivPl c s i:=by omega
    simp [hne,h2]
theorem worst_ed(c:Cup)(R:List (List Int)):∀ a:Int × Int × List Int,((R.foldl wStep a).1,(R.foldl wStep a).2.1)=R.foldl (edS fun x:List Int=>x.getD 1 0) (a.1,a.2.1):=by
  induction R with
  | nil=>intro a;rfl
  | cons x R ih =>
    intro a
    rw [List.foldl_cons,List.foldl_cons,ih]
    congr 1
    unfold wStep edS
    split
    · rfl
    · split <;> rfl
theorem worst_ge(hL:LastOK c s)(hr:RaceN c r):rankM (withC c [r]) s≤(worstM c s).1:=by
  rw [rank_rivals hL hr]
  have he:=worst_ed c (rivM c s) (1,1,List.replicate c.sk.toNat 0)
  have hpb:∀ x∈rivM c s,afB c r s x=true→60<x.getD 1 0∨1≤r.getD (x.getD 0 0).toNat 0∧r.getD (x.getD 0 0).toNat 0≤x.getD 1 0:=fun x hx hb=>by
    obtain ⟨i,hi,hne,rfl,_⟩:=rivM_mem hx
    have hi':i<c.sk.toNat:=by omega
    unfold afB at hb
    change betS (withC c [r]) ((i:Int).toNat) s=true at hb
    rw [Int.toNat_natCast,bet_race hL hr hi' hne] at hb
    have:=riv_ge hL hi' hne (place_bd hr hi') (place_bd hr hL.hs) (place_ne hr hi' hL.hs hne) hb
    show 60<rivPl c s i∨1≤r.getD ((i:Int).toNat) 0∧r.getD ((i:Int).toNat) 0≤rivPl c s i
    rw [Int.toNat_natCast];exact this
  have h:=edf (D:=fun x:List Int=>x.getD 1 0) (q:=fun x=>r.getD (x.getD 0 0).toNat 0) (P:=afB c r s) (rivM c s) [] 1 1 (by simp) (by omega) (by rw [List.nil_append];exact rivM_pw c s) (by rw [List.nil_append];exact hpb) (by
    rw [List.nil_append]
    refine List.Pairwise.imp_of_mem (fun {x y} hx hy hne p1 p2 d1 d2 => ?_) (rivM_nd c s)
    have q1:=hpb x hx p1
    have q2:=hpb y hy p2
    obtain ⟨i,hi,_,rfl,_⟩:=rivM_mem hx
    obtain ⟨j,hj,_,rfl,_⟩:=rivM_mem hy
    have hij:(i:Int)≠(j:Int):=hne
    change 60<rivPl c s i∨1≤r.getD ((i:Int).toNat) 0∧_ at q1
    change rivPl c s i≤60 at d1
    intro e
    change r.getD ((i:Int).toNat) 0=r.getD ((j:Int).toNat) 0 at e
    rw [Int.toNat_natCast] at q1
    rw [Int.toNat_natCast,Int.toNat_natCast] at e
    rcases place_ne hr (o:=i) (s:=j) (by omega) (by omega) (by omega) with h | h | h <;> omega)
  rw [List.nil_append] at h
  have e1:(worstM c s).1=((rivM c s).foldl (edS fun x:List Int=>x.getD 1 0) (1,1)).1:=by
    have:=congrArg Prod.fst he
    exact this
  rw [e1]
  omega
end
end
section
open KL
section
variable {c:Cup} {s:Nat}
def RivX(c:Cup)(s:Nat)(x:List Int):Prop:=∃ i:Nat,i<c.sk.toNat∧i≠s∧x=rivT c s i
structure WInv (c:Cup) (s:Nat) (pre R:List (List Int)) (a n:Int) (g:List Int):Prop where
  len:g.length=c.sk.toNat
  bd:∀ x∈g,0≤x∧x<n
  n1:1≤n
  n2:n≤(pre.length:Int)+1
  ns:NSh g
  own:g.getD s 0=0
  rest:∀ x∈R,g.getD (x.getD 0 0).toNat 0=0
  done:∀ x∈pre,60<x.getD 1 0∧g.getD (x.getD 0 0).toNat 0=0∨x.getD 1 0≤60∧g.getD (x.getD 0 0).toNat 0≤x.getD 1 0
  cnt:((pre.countP fun x=>decide (60<x.getD 1 0) || decide (1≤g.getD (x.getD 0 0).toNat 0):Nat):Int)=a-1
theorem getD_set{l:List Int}{i j:Nat}{x:Int}(hi:i<l.length):(l.set i x).getD j 0=if i=j then x else l.getD j 0:=by
  rw [List.getD_eq_getElem?_getD,List.getElem?_set]
  by_cases e:i=j
  · subst e;rw [if_pos rfl,if_pos rfl,if_pos hi];rfl
  · rw [if_neg e,if_neg e,List.getD_eq_getElem?_getD]
theorem worst_inv(hL:LastOK c s):∀ (R pre:List (List Int)) (a n:Int) (g:List Int),WInv c s pre R a n g→(∀ x∈pre++R,RivX c s x)→(pre++R).Pairwise (fun x y=>x.getD 0 0≠y.getD 0 0) →
    WInv c s (pre++R) [] (R.foldl wStep (a,n,g)).1 (R.foldl wStep (a,n,g)).2.1 (R.foldl wStep (a,n,g)).2.2
  | [],pre,a,n,g,h,_,_=>by rw [List.append_nil];exact h
  | x::R,pre,a,n,g,h,hx,hd=>by
    obtain ⟨i,hi,hne,rfl⟩:=hx x (by simp)
    rw [List.append_cons] at hx hd ⊢
    rw [List.foldl_cons]
    have hi0:g.getD i 0=0:=by have:=h.rest (rivT c s i) (by simp);rwa [show ((rivT c s i).getD 0 0).toNat=i from Int.toNat_natCast i] at this
    have ei:((rivT c s i).getD 0 0).toNat=i:=Int.toNat_natCast i
    have eD:(rivT c s i).getD 1 0=rivPl c s i:=rfl
    have hil:i<g.length:=by rw [h.len];exact hi
    have cs:∀ g':List Int,((pre++[rivT c s i]).countP fun x=>decide (60<x.getD 1 0) || decide (1≤g'.getD (x.getD 0 0).toNat 0):Nat)=(pre.countP fun x=>decide (60<x.getD 1 0) || decide (1≤g'.getD (x.getD 0 0).toNat 0):Nat)+if 60<rivPl c s i∨1≤g'.getD i 0 then 1 else 0:=fun g'=>by
      rw [List.countP_append,List.countP_cons,List.countP_nil,Nat.zero_add]
      congr 1
      rw [ei,eD]
      by_cases e:60<rivPl c s i∨1≤g'.getD i 0
      · rw [if_pos e,if_pos (by rw [Bool.or_eq_true,decide_eq_true_eq,decide_eq_true_eq];exact e)]
      · rw [if_neg e,if_neg (by rw [Bool.or_eq_true,decide_eq_true_eq,decide_eq_true_eq];exact e)]
    have hn2:=h.n2
    have hcn:=h.cnt
    have hR:∀ x∈R,g.getD (x.getD 0 0).toNat 0=0:=fun x hx=>h.rest x (List.mem_cons_of_mem _ hx)
    unfold wStep
    rw [eD,show (rivT c s i).getD 0 0=(i:Int) from rfl,Int.toNat_natCast]
    dsimp only
    by_cases g1:60<rivPl c s i
    · rw [if_pos g1]
      refine worst_inv hL R _ (a+1) n g ⟨h.len,h.bd,h.n1,by rw [List.length_append];simp;omega,h.ns,h.own,hR,fun y hy => ?_,?_⟩ hx hd
      · rcases List.mem_append.1 hy with hy | hy
        · exact h.done y hy
        · rw [List.mem_singleton.1 hy,ei,eD];exact .inl ⟨g1,hi0⟩
      · rw [cs,if_pos (.inl g1)];omega
    · rw [if_neg g1]
      by_cases g2:n≤rivPl c s i
      · rw [if_pos g2]
        have n1:=h.n1
        have hot:∀ y∈pre,(y.getD 0 0).toNat≠i:=fun y hy e=>by
          obtain ⟨j,hj,_,rfl⟩:=hx y (List.mem_append_left _ (List.mem_append_left _ hy))
          have hp:=(List.pairwise_append.1 (List.pairwise_append.1 hd).1).2.2 _ hy (rivT c s i) (by simp)
          rw [show ((rivT c s j).getD 0 0).toNat=j from Int.toNat_natCast j] at e
          subst e
          exact hp rfl
        have hR2:∀ y∈R,(y.getD 0 0).toNat≠i:=fun y hy e=>by
          obtain ⟨j,hj,_,rfl⟩:=hx y (List.mem_append_right _ hy)
          have hp:=(List.pairwise_append.1 hd).2.2 (rivT c s i) (by simp) _ hy
          rw [show ((rivT c s j).getD 0 0).toNat=j from Int.toNat_natCast j] at e
          subst e
          exact hp rfl
        refine worst_inv hL R _ (a+1) (n+1) (g.set i n) ⟨by rw [List.length_set];exact h.len,fun y hy => ?_,by omega,by rw [List.length_append];simp;omega,fun p hp => ?_,?_,fun y hy => ?_,fun y hy => ?_,?_⟩ hx hd
        · rcases List.mem_or_eq_of_mem_set hy with hy | rfl
          · have:=h.bd y hy;omega
          · omega
        · rw [KL.count_setZ hil hi0 hp]
          by_cases e:n=p
          · subst e
            rw [if_pos rfl,List.count_eq_zero.2 fun hm=>by have:=h.bd n hm;omega]
            omega
          · rw [if_neg e];exact h.ns p hp
        · rw [getD_set hil,if_neg hne];exact h.own
        · rw [getD_set hil,if_neg (Ne.symm (hR2 y hy))];exact hR y hy
        · rcases List.mem_append.1 hy with hy | hy
          · rw [getD_set hil,if_neg (Ne.symm (hot y hy))];exact h.done y hy
          · rw [List.mem_singleton.1 hy,ei,eD,getD_set hil,if_pos rfl];exact .inr ⟨by omega,g2⟩
        · rw [cs,if_pos (.inr (by rw [getD_set hil,if_pos rfl];exact n1))]
          have:(pre.countP fun x=>decide (60<x.getD 1 0) || decide (1≤(g.set i n).getD (x.getD 0 0).toNat 0))=pre.countP fun x=>decide (60<x.getD 1 0) || decide (1≤g.getD (x.getD 0 0).toNat 0):=List.countP_congr fun y hy=>by
            rw [getD_set hil,if_neg (Ne.symm (hot y hy))]
          rw [this];omega
      · rw [if_neg g2]
        refine worst_inv hL R _ a n g ⟨h.len,h.bd,h.n1,by rw [List.length_append];simp;omega,h.ns,h.own,hR,fun y hy => ?_,?_⟩ hx hd
        · rcases List.mem_append.1 hy with hy | hy
          · exact h.done y hy
          · have:=h.n1
            rw [List.mem_singleton.1 hy,ei,eD,hi0]
            by_cases e:0≤rivPl c s i
            · exact .inr ⟨by omega,e⟩
            · have:=(rivPl_bd c s i).1;omega
        · rw [cs,if_neg (by rw [hi0];omega)];omega
theorem riv_x{x:List Int}(h:x∈rivM c s):RivX c s x:=by
  obtain ⟨i,hi,hne,rfl,_⟩:=rivM_mem h
  exact ⟨i,by omega,hne,rfl⟩
theorem worst_fin(hL:LastOK c s):WInv c s (rivM c s) [] (worstM c s).1 (worstM c s).2.1 (worstM c s).2.2:=by
  have hz:∀ j,(List.replicate c.sk.toNat (0:Int)).getD j 0=0:=fun j=>by
    rw [List.getD_eq_getElem?_getD,List.getElem?_replicate];split <;> rfl
  have h:=worst_inv hL (rivM c s) [] 1 1 (List.replicate c.sk.toNat 0) ⟨by simp,fun x hx=>by rw [List.eq_of_mem_replicate hx];omega,by omega,by simp,fun p hp=>by rw [List.count_eq_zero.2 fun h=>hp (List.eq_of_mem_replicate h)];omega,hz s,fun x _=>hz _,fun x hx=>by simp at hx,by simp⟩ (fun x hx=>by rw [List.nil_append] at hx;exact riv_x hx) (by rw [List.nil_append];exact rivM_nd c s)
  rw [List.nil_append] at h
  exact h
theorem ns_clash{r:List Int}(hN:NSh r)(hb:∀ x∈r,0≤x∧x≤60):KL.NoClash r:=fun p hp h0=>by
  have h1:=hN p h0
  have h2:=hb p hp
  exact ⟨by omega,fun q hq hpq=>by omega⟩
theorem worst_race(hL:LastOK c s):RaceN c (worstM c s).2.2:=by
  have h:=worst_fin hL
  have hn:=h.n2
  have hl:=rivM_len c s
  have s2:=hL.hv.sk2
  have hb:∀ x∈(worstM c s).2.2,0≤x∧x≤60:=fun x hx=>by have:=h.bd x hx;omega
  exact ⟨⟨h.len,hb,ns_clash h.ns hb⟩,h.ns⟩
theorem worst_eq(hL:LastOK c s):rankM (withC c [(worstM c s).2.2]) s=(worstM c s).1:=by
  have h:=worst_fin hL
  have hr:=worst_race hL
  rw [rank_rivals hL hr]
  have e:(rivM c s).countP (afB c (worstM c s).2.2 s)=(rivM c s).countP fun x=>decide (60<x.getD 1 0) || decide (1≤(worstM c s).2.2.getD (x.getD 0 0).toNat 0):=List.countP_congr fun x hx=>by
    obtain ⟨i,hi,hne,rfl⟩:=riv_x hx
    have hd:=h.done _ hx
    have e1:((rivT c s i).getD 0 0).toNat=i:=Int.toNat_natCast i
    have eD:(rivT c s i).getD 1 0=rivPl c s i:=rfl
    rw [e1,eD] at hd
    have hb:=place_bd hr hi
    unfold afB
    rw [e1,eD,bet_race hL hr hi hne,h.own,Bool.or_eq_true,decide_eq_true_eq,decide_eq_true_eq]
    rcases hd with ⟨h1,h2⟩ | ⟨h1,h2⟩
    · rw [h2]
      exact ⟨fun _ => .inl h1,fun _=>riv_free h1⟩
    · constructor
      · intro hbt
        right
        by_cases e0:(worstM c s).2.2.getD i 0=0
        · rw [e0,riv_not h1] at hbt;cases hbt
        · omega
      · rintro (hh | hh)
        · omega
        · exact riv_so h1 hh h2
  rw [e]
  have:=h.cnt
  omega
end
end
section
open KL
theorem oth_iff{s n x:Nat}:x∈KL.oth s n↔x<n∧x≠s:=by
  unfold KL.oth
  rw [List.mem_filter,List.mem_range,decide_eq_true_eq]
section
variable {c:Cup} {s:Nat}
theorem find_fold(c:Cup)(s:Nat)(pl:Int)(free:List Int):∀ (l:List Nat) (fo:Int),(0≤fo→l.foldl (findF c s pl free) fo=fo) ∧
    (fo<0→(l.foldl (findF c s pl free) fo<0∧∀ x∈l,¬ (free.getD x 0=0∧beatsM c x pl s 1=false))∨∃ x∈l,free.getD x 0=0∧beatsM c x pl s 1=false∧l.foldl (findF c s pl free) fo=(x:Int))
  | [],fo=>⟨fun _=>rfl,fun h => .inl ⟨h,fun x hx=>by simp at hx⟩⟩
  | x::l,fo=>by
    obtain ⟨i1,i2⟩:=find_fold c s pl free l (findF c s pl free fo x)
    refine ⟨fun h => ?_,fun h => ?_⟩
    · have e:findF c s pl free fo x=fo:=by unfold findF;rw [if_neg (by omega)]
      rw [List.foldl_cons,e]
      rw [e] at i1
      exact i1 h
    · by_cases g:free.getD x 0=0∧beatsM c x pl s 1=false
      · have e:findF c s pl free fo x=(x:Int):=by unfold findF;rw [if_pos h,if_pos g.1,if_neg (by rw [g.2];simp)]
        refine .inr ⟨x,by simp,g.1,g.2,?_⟩
        rw [List.foldl_cons,e]
        rw [e] at i1
        exact i1 (by omega)
      · have e:findF c s pl free fo x=fo:=by
          unfold findF
          rw [if_pos h]
          by_cases g1:free.getD x 0=0
          · rw [if_pos g1]
            cases g2:beatsM c x pl s 1 with
            | true=>rw [if_pos rfl]
            | false=>exact absurd ⟨g1,g2⟩ g
          · rw [if_neg g1]
        rw [List.foldl_cons,e]
        rw [e] at i2
        rcases i2 h with ⟨h1,h2⟩ | ⟨y,hy,h1⟩
        · refine .inl ⟨h1,fun y hy => ?_⟩
          rcases List.mem_cons.1 hy with rfl | hy
          · exact g
          · exact h2 y hy
        · exact .inr ⟨y,List.mem_cons_of_mem _ hy,h1⟩
theorem harm_cnt(c:Cup)(s:Nat)(p:Int):harmM c s p=((KL.oth s c.sk.toNat).countP fun x => !beatsM c x p s 1:Nat):=by
  unfold harmM
  have:∀ (l:List Nat) (n:Int),l.foldl (fun n x=>if beatsM c x p s 1 then n else n+1) n=n+(l.countP fun x => !beatsM c x p s 1:Nat):=by
    intro l
    induction l with
    | nil=>intro n;simp
    | cons x l ih =>
      intro n
      rw [List.foldl_cons,ih,List.countP_cons]
      cases beatsM c x p s 1 <;> simp <;> omega
  rw [this];omega
theorem map_getD(g:List Int):(List.range g.length).map (fun i=>g.getD i 0)=g:=by
  apply List.ext_getElem
  · simp
  · intro i h1 h2
    simp [List.getD_eq_getElem?_getD,h2]
theorem count_at(g:List Int)(P:Int→Bool):g.countP P=(List.range g.length).countP fun i=>P (g.getD i 0):=by
  conv=>lhs;rw [← map_getD g]
  rw [List.countP_map];rfl
theorem count_oth{n s:Nat}(hs:s<n)(P:Nat→Bool):(List.range n).countP P=(KL.oth s n).countP P+if P s=true then 1 else 0:=by
  unfold KL.oth
  rw [List.countP_filter]
  have h1:(List.range n).countP P=(List.range n).countP (fun i=>P i && decide (i≠s))+(List.range n).countP (fun i=>P i && decide (i=s)):=by
    induction List.range n with
    | nil=>rfl
    | cons x l ih =>
      rw [List.countP_cons,List.countP_cons,List.countP_cons,ih]
      by_cases e:x=s <;> cases P x <;> simp [e] <;> omega
  rw [h1]
  congr 1
  by_cases e:P s=true
  · rw [if_pos e]
    have:(List.range n).countP (fun i=>P i && decide (i=s))=(List.range n).count s:=List.countP_congr fun x _=>by
      by_cases g:x=s
      · subst g;simp [e]
      · simp [g]
    rw [this,List.count_range];simp [hs]
  · rw [if_neg e]
    refine List.countP_eq_zero.2 fun x _ h => ?_
    simp only [Bool.and_eq_true,decide_eq_true_eq] at h
    exact e (h.2 ▸ h.1)

structure FInv (c:Cup) (s:Nat) (pl:Int) (g:List Int):Prop where
  len:g.length=c.sk.toNat
  bd:∀ x∈g,0≤x∧x<pl
  ns:NSh g
  own:g.getD s 0=1
  cnt:((g.countP fun x=>decide (x≠0):Nat):Int)=pl-1
  ok:∀ o,o<c.sk.toNat→o≠s→g.getD o 0≠0→beatsM c o (g.getD o 0) s 1=false
theorem FInv.step{pl:Int}{g:List Int}(h:FInv c s pl g)(hp:1≤pl){x:Nat}(hx:x<c.sk.toNat)(hne:x≠s)(h0:g.getD x 0=0)(hb:beatsM c x pl s 1=false):FInv c s (pl+1) (g.set x pl):=by
  have hl:x<g.length:=by rw [h.len];exact hx
  refine ⟨by rw [List.length_set];exact h.len,fun y hy => ?_,fun p hp => ?_,?_,?_,fun o ho hos h1 => ?_⟩
  · rcases List.mem_or_eq_of_mem_set hy with hy | rfl
    · have:=h.bd y hy;omega
    · omega
  · rw [KL.count_setZ hl h0 hp]
    by_cases e:pl=p
    · subst e
      rw [if_pos rfl,List.count_eq_zero.2 fun hm=>by have:=h.bd pl hm;omega]
      omega
    · rw [if_neg e];exact h.ns p hp
  · rw [getD_set hl,if_neg hne];exact h.own
  · have hg0:g[x]=0:=by rw [List.getD_eq_getElem?_getD,List.getElem?_eq_getElem hl] at h0;exact h0
    have hc:=h.cnt
    rw [List.countP_set hl,hg0]
    have:0≤(g.countP fun x=>decide (x≠0)):=Nat.zero_le _
    rw [if_neg (by simp),if_pos (by simp;omega)]
    omega
  · rw [getD_set hl] at h1 ⊢
    by_cases e:x=o
    · subst e;rw [if_pos rfl];exact hb
    · rw [if_neg e] at h1 ⊢;exact h.ok o ho hos h1
theorem full_spec(hL:LastOK c s):∀ (n:Nat) (pl:Int) (g:List Int),FInv c s pl g→2≤pl→pl+n=c.sk+1→(∃ f,fullR c s n pl g=some f∧FInv c s (c.sk+1) f)∨(fullR c s n pl g=none∧∃ p:Int,2≤p∧p≤c.sk∧harmM c s p<p-1)
  | 0,pl,g,h,_,hk => .inl ⟨g,rfl,by rwa [show pl=c.sk+1 by omega] at h⟩
  | n+1,pl,g,h,h2,hk=>by
    have hf:=(find_fold c s pl g (KL.oth s c.sk.toNat) (-1)).2 (by omega)
    change (findM c s pl g<0∧_)∨∃ x∈_,_∧_∧findM c s pl g=_ at hf
    unfold fullR
    rcases hf with ⟨f1,f2⟩ | ⟨x,hx,f1,f2,f3⟩
    · rw [if_pos f1]
      refine .inr ⟨rfl,pl,h2,by omega,?_⟩
      rw [harm_cnt]
      have h3:(KL.oth s c.sk.toNat).countP (fun x => !beatsM c x pl s 1)≤(KL.oth s c.sk.toNat).countP (fun x=>decide (g.getD x 0≠0)):=List.countP_mono_left fun x hx hb=>by
        have:=f2 x hx
        rw [Bool.not_eq_true'] at hb
        rw [decide_eq_true_eq]
        exact fun e=>this ⟨e,hb⟩
      have h4:=count_oth hL.hs (fun i=>decide (g.getD i 0≠0))
      have h5:=count_at g (fun x=>decide (x≠0))
      rw [h.len] at h5
      rw [if_pos (by rw [h.own];rfl)] at h4
      have:=h.cnt
      omega
    · rw [if_neg (by rw [f3];omega),f3,Int.toNat_natCast]
      obtain ⟨x1,x2⟩:=oth_iff.1 hx
      exact full_spec hL n (pl+1) _ (h.step (by omega) x1 x2 f1 f2) (by omega) (by omega)
theorem full_start(hL:LastOK c s):FInv c s 2 ((List.replicate c.sk.toNat 0).set s 1):=by
  have hl:s<(List.replicate c.sk.toNat (0:Int)).length:=by simpa using hL.hs
  have hz:∀ j,(List.replicate c.sk.toNat (0:Int)).getD j 0=0:=fun j=>by
    rw [List.getD_eq_getElem?_getD,List.getElem?_replicate];split <;> rfl
  refine ⟨by simp,fun y hy => ?_,fun p hp => ?_,?_,?_,fun o ho hos h1 => ?_⟩
  · rcases List.mem_or_eq_of_mem_set hy with hy | rfl
    · rw [List.eq_of_mem_replicate hy];omega
    · omega
  · rw [KL.count_setZ hl (hz s) hp,List.count_eq_zero.2 fun h=>hp (List.eq_of_mem_replicate h)]
    split <;> omega
  · rw [getD_set hl,if_pos rfl]
  · rw [List.countP_set hl]
    simp
  · rw [getD_set hl,if_neg (Ne.symm hos)] at h1
    exact absurd (hz o) h1
theorem full_cases(hL:LastOK c s):(∃ f,fullM c s=some f∧FInv c s (c.sk+1) f)∨(fullM c s=none∧∃ p:Int,2≤p∧p≤c.sk∧harmM c s p<p-1):=by
  have s1:=hL.hv.sk1
  exact full_spec hL (c.sk.toNat-1) 2 _ (full_start hL) (by omega) (by omega)

structure Full (n:Nat) (g:List Int):Prop where
  len:g.length=n
  bd:∀ x∈g,1≤x∧x≤n
  nd:g.Nodup
theorem Full.raceN(hL:LastOK c s){g:List Int}(h:Full c.sk.toNat g):RaceN c g:=by
  have s2:=hL.hv.sk2
  have hN:NSh g:=fun p _=>List.nodup_iff_count.1 h.nd p
  have hb:∀ x∈g,0≤x∧x≤60:=fun x hx=>by have:=h.bd x hx;omega
  exact ⟨⟨h.len,hb,ns_clash hN hb⟩,hN⟩
theorem FInv.full(hL:LastOK c s){f:List Int}(h:FInv c s (c.sk+1) f):Full c.sk.toNat f:=by
  have s1:=hL.hv.sk1
  have hc:=h.cnt
  have hl:=h.len
  have h0:∀ x∈f,x≠0:=fun x hx=>by
    have h1:f.countP (fun x=>decide (x≠0))=f.length:=by omega
    exact of_decide_eq_true (List.countP_eq_length.1 h1 x hx)
  refine ⟨h.len,fun x hx=>by have:=h.bd x hx;have:=h0 x hx;omega,List.nodup_iff_count.2 fun x => ?_⟩
  by_cases hm:x∈f
  · exact h.ns x (h0 x hm)
  · rw [List.count_eq_zero.2 hm];omega
theorem full_harm(hL:LastOK c s){g:List Int}(h:Full c.sk.toNat g)(hb:∀ o,o<c.sk.toNat→o≠s→beatsM c o (g.getD o 0) s (g.getD s 0)=false){p:Int}(h2:2≤p)(hp:p≤c.sk):p-1≤harmM c s p:=by
  have s2:=hL.hv.sk2
  have hr:=h.raceN hL
  have hat:∀ x,x<c.sk.toNat→1≤g.getD x 0∧g.getD x 0≤c.sk.toNat:=fun x hx=>by
    rw [List.getD_eq_getElem?_getD,List.getElem?_eq_getElem (by rw [h.len];exact hx)]
    exact h.bd _ (List.getElem_mem _)
  rw [harm_cnt]
  have h3:(KL.oth s c.sk.toNat).countP (fun x=>decide (g.getD x 0≤p))≤(KL.oth s c.sk.toNat).countP (fun x => !beatsM c x p s 1):=List.countP_mono_left fun x hx hx2=>by
    obtain ⟨x1,x2⟩:=oth_iff.1 hx
    have hx2:=of_decide_eq_true hx2
    have a1:=hat x x1
    have a2:=hat s hL.hs
    cases e:beatsM c x p s 1 with
    | false=>rfl
    | true =>
      have n2:=place_ne hr x1 hL.hs x2
      have:=beats_mono hL x1 x2 (p':=g.getD x 0) (w':=g.getD s 0) ⟨by omega,by omega⟩ ⟨by omega,by omega⟩ ⟨by omega,by omega⟩ ⟨by omega,by omega⟩ (.inr (.inr (by omega))) n2 (.inr ⟨by omega,hx2⟩) (.inr ⟨by omega,a2.1⟩) e
      rw [hb x x1 x2] at this;cases this
  have h4:=count_oth hL.hs (fun i=>decide (g.getD i 0≤p))
  have h5:=count_at g (fun x=>decide (x≤p))
  rw [h.len] at h5
  have h6:p≤(g.countP fun x=>decide (x≤p):Nat):=by
    have h7:=nodup_bd (c.sk-p).toNat ((g.filter fun x => !decide (x≤p)).map fun x=>x-p) (List.pairwise_map.2 ((h.nd.filter _).imp fun hne=>by omega)) (fun x hx=>by
      obtain ⟨y,hy,rfl⟩:=List.mem_map.1 hx
      obtain ⟨y1,y2⟩:=List.mem_filter.1 hy
      have:=h.bd y y1
      have y2:¬ y≤p:=by simpa using y2
      omega)
    have h8:=List.length_eq_countP_add_countP (l:=g) (fun x=>decide (x≤p))
    rw [List.length_map,← List.countP_eq_length_filter] at h7
    have h9:g.countP (fun a=>decide ¬(decide (a≤p)=true))=g.countP fun x => !decide (x≤p):=List.countP_congr fun x _=>by simp
    rw [h9,h.len] at h8
    omega
  have:(if decide (g.getD s 0≤p)=true then 1 else 0:Nat)≤1:=by split <;> omega
  omega
theorem rank_full(hL:LastOK c s){g:List Int}(h:Full c.sk.toNat g):rankM (withC c [g]) s=1↔∀ o,o<c.sk.toNat→o≠s→beatsM c o (g.getD o 0) s (g.getD s 0)=false:=by
  have hr:=h.raceN hL
  rw [rank_one]
  constructor
  · intro h1 o ho hne
    rw [← bet_race hL hr ho hne]
    exact h1 o ho
  · intro h1 o ho
    by_cases hne:o=s
    · subst hne;exact betS_self _ _
    · rw [bet_race hL hr ho hne];exact h1 o ho hne
theorem full_first(hL:LastOK c s){f:List Int}(h:fullM c s=some f):Full c.sk.toNat f∧rankM (withC c [f]) s=1:=by
  rcases full_cases hL with ⟨f',e,hI⟩ | ⟨e,_⟩
  · rw [e] at h;cases h
    have hF:=hI.full hL
    refine ⟨hF,(rank_full hL hF).2 fun o ho hne => ?_⟩
    rw [hI.own]
    refine hI.ok o ho hne ?_
    have:=hF.bd (f.getD o 0) (by rw [List.getD_eq_getElem?_getD,List.getElem?_eq_getElem (by rw [hF.len];exact ho)];exact List.getElem_mem _)
    omega
  · rw [e] at h;cases h
theorem full_block(hL:LastOK c s){f:List Int}(h:fullM c s=some f){p:Int}(h2:2≤p)(hp:p≤c.sk):blkM c s p=false:=by
  obtain ⟨hF,h1⟩:=full_first hL h
  have:=full_harm hL hF ((rank_full hL hF).1 h1) h2 hp
  unfold blkM
  exact decide_eq_false (by omega)
theorem blockR_none{c:Cup}{s:Nat}:∀ (n:Nat) (p:Int),(∀ q,p≤q→q<p+n→blkM c s q=false)→blockR c s n p=none
  | 0,_,_=>rfl
  | n+1,p,h=>by
    unfold blockR
    rw [h p (by omega) (by omega),if_neg (by simp)]
    exact blockR_none n (p+1) fun q h1 h2=>h q (by omega) (by omega)
theorem blockR_some{c:Cup}{s:Nat}:∀ (n:Nat) (p:Int),(∃ q,p≤q∧q<p+n∧blkM c s q=true)→∃ q,blockR c s n p=some q∧p≤q∧q<p+n∧blkM c s q=true
  | 0,p,⟨q,h1,h2,_⟩=>by omega
  | n+1,p,⟨q,h1,h2,h3⟩=>by
    unfold blockR
    cases e:blkM c s p with
    | true=>exact ⟨p,if_pos rfl,by omega,by omega,e⟩
    | false =>
      have hne:q≠p:=fun h=>by subst h;rw [e] at h3;cases h3
      obtain ⟨q',a,b,d,f⟩:=blockR_some n (p+1) ⟨q,by omega,by omega,h3⟩
      exact ⟨q',by rw [if_neg (by simp)];exact a,by omega,by omega,f⟩
theorem block_cases(hL:LastOK c s):(∃ f,fullM c s=some f∧blockM c s=none)∨(fullM c s=none∧∃ q,blockM c s=some q∧2≤q∧q≤c.sk∧blkM c s q=true):=by
  have s1:=hL.hv.sk1
  rcases full_cases hL with ⟨f,e,_⟩ | ⟨e,p,h1,h2,h3⟩
  · exact .inl ⟨f,e,blockR_none _ _ fun q g1 g2=>full_block hL e g1 (by omega)⟩
  · obtain ⟨q,a,b,d,g⟩:=blockR_some (c:=c) (s:=s) (c.sk.toNat-1) 2 ⟨p,h1,by omega,decide_eq_true h3⟩
    exact .inr ⟨e,q,a,b,by omega,g⟩
theorem none_first(hL:LastOK c s)(h:fullM c s=none){g:List Int}(hg:Full c.sk.toNat g):rankM (withC c [g]) s≠1:=fun h1=>by
  rcases full_cases hL with ⟨f,e,_⟩ | ⟨_,p,g1,g2,g3⟩
  · rw [e] at h;cases h
  · have:=full_harm hL hg ((rank_full hL hg).1 h1) g1 g2
    omega
end
end
section
open KL
theorem mado_p0{ns nr:Int}{l:List Int}{nx st r0 m1 t2 r3 m4 t5 r6 m7 t8 r9 m10 t11 r12 m13 t14:Int}{i'15:Nat}{pts'16:List Int}{pa'17 mx'18 tt'19 r20 m21 t22:Int}{j'23:Nat}{dn'24:List (List Int)}{mx'25 tt'26:Int}(h0:0≤nx∧nx≤1000000000)(h1:(-1000000≤(2:Int)∧(2:Int)≤1000000) ∧ -1000000≤ns∧ns≤1000000)(h2:btwM (2:Int) ns l nx st=(r0,m1,t2))(h3:0≤m1∧m1≤1000000000)(h4:(-1000000≤(1:Int)∧(1:Int)≤1000000) ∧ -1000000≤nr∧nr≤1000000)(h5:btwM (1:Int) nr l m1 t2=(r3,m4,t5))(h6:0≤m4∧m4≤1000000000)(h7:(-1000000≤(1:Int)∧(1:Int)≤1000000) ∧ -1000000≤r3∧r3≤1000000)(h8:btwM (1:Int) r3 l m4 t5=(r6,m7,t8))(h9:0≤m7∧m7≤1000000000)(h10:(-1000000≤(10:Int)∧(10:Int)≤1000000) ∧ -1000000≤(40:Int)∧(40:Int)≤1000000)(h11:btwM (10:Int) (40:Int) l m7 t8=(r9,m10,t11))(h12:0≤m10∧m10≤1000000000)(h13:(-1000000≤(1:Int)∧(1:Int)≤1000000) ∧ -1000000≤(10:Int)∧(10:Int)≤1000000)(h14:btwM (1:Int) (10:Int) l m10 t11=(r12,m13,t14))(hl15:LoopOK Tryz.prog 1 (sub (cd Tryz.f26) [1,1,1,1,0,1,0,0]) (made_S0 l r0 r3 r6 r12 0 0 [] r9 m13 t14) (.exit 0) (made_S0 l r0 r3 r6 r12 i'15 pts'16.length (pts'16.map intP) pa'17 mx'18 tt'19))(h16:inR (r3+(1:Int)))(h17:0≤mx'18∧mx'18≤1000000000)(h18:drawM (r3+(1:Int)) l mx'18 tt'19=(r20,m21,t22))(hl19:LoopOK Tryz.prog 1 (sub (cd Tryz.f26) [1,1,1,1,1,0,1,0,0]) (made_S1 l r0 r3 r6 pts'16 r20 0 0 [] m21 t22) (.exit 2) (made_S1 l r0 r3 r6 pts'16 r20 j'23 dn'24.length (dn'24.map intsP) mx'25 tt'26)):FMM Tryz.prog 26 [(.ptr 0 0),(.p (intP ns)),(.p (intP nr))] [some (deckO l nx st)] (.agg [(.p (intP r0)),(.p (intP r3)),(.p (intP r6)),(.p (intsP pts'16)),(.own 1)]) [some (deckO l mx'25 tt'26),some (.row 22 dn'24.length (dn'24.map intsP))]:=by
  exact FMM.fin (k:=1) (g:=⟨[],[4],[3],[]⟩) rfl Tryz.func26 rfl (o:=[.c (.p (intP r0)) [(0,(deckO l m1 t2))],.c (.p (intP r3)) [(0,(deckO l m4 t5))],.c (.p (intP r6)) [(0,(deckO l m7 t8))],.c (.p (intP r9)) [(0,(deckO l m10 t11))],.c (.p (intP r12)) [(0,(deckO l m13 t14))],.k 1 ⟨(rng [(1,5),(9,15),(26,13)]),[1,2,3],[],[(102003,3)]⟩ (.exit 0) (made_S0 l r0 r3 r6 r12 i'15 pts'16.length (pts'16.map intP) pa'17 mx'18 tt'19),.c (.p (intP r20)) [(0,(deckO l m21 t22))],.k 1 ⟨(rng [(1,5),(8,35),(45,11)]),[1,2,3,4],[],[(102004,22)]⟩ (.exit 2) (made_S1 l r0 r3 r6 pts'16 r20 j'23 dn'24.length (dn'24.map intsP) mx'25 tt'26)]) (l:=[_,FC Tryz.prog 28 [(.ptr 0 0),(.p (intP (r3+(1:Int))))] [(0,(deckO l mx'18 tt'19))] 4 (.p (intP r20)) [(0,(deckO l m21 t22))],_,_,FC Tryz.prog 29 [(.ptr 0 0),(.p (intP 1)),(.p (intP 10))] [(0,(deckO l m10 t11))] 3 (.p (intP r12)) [(0,(deckO l m13 t14))],FC Tryz.prog 29 [(.ptr 0 0),(.p (intP 10)),(.p (intP 40))] [(0,(deckO l m7 t8))] 3 (.p (intP r9)) [(0,(deckO l m10 t11))],FC Tryz.prog 29 [(.ptr 0 0),(.p (intP 1)),(.p (intP r3))] [(0,(deckO l m4 t5))] 3 (.p (intP r6)) [(0,(deckO l m7 t8))],FC Tryz.prog 29 [(.ptr 0 0),(.p (intP 1)),(.p (intP nr))] [(0,(deckO l m1 t2))] 2 (.p (intP r3)) [(0,(deckO l m4 t5))],FC Tryz.prog 29 [(.ptr 0 0),(.p (intP 2)),(.p (intP ns))] [(0,(deckO l nx st))] 2 (.p (intP r0)) [(0,(deckO l m1 t2))]]) (by kernel_rfl) (gc hl19.code (gc (FMM.fc (ids:=[0]) (draw_eq (r3+(1:Int)) l mx'18 tt'19 h17 h18) (by kernel_rfl)) (gc h16 (gc hl15.code (gc (FMM.fc (ids:=[0]) (btw_eq (1:Int) (10:Int) l m10 t11 h12 h13 h14) (by kernel_rfl)) (gc (FMM.fc (ids:=[0]) (btw_eq (10:Int) (40:Int) l m7 t8 h9 h10 h11) (by kernel_rfl)) (gc (FMM.fc (ids:=[0]) (btw_eq (1:Int) r3 l m4 t5 h6 h7 h8) (by kernel_rfl)) (gc (FMM.fc (ids:=[0]) (btw_eq (1:Int) nr l m1 t2 h3 h4 h5) (by kernel_rfl)) (gc (FMM.fc (ids:=[0]) (btw_eq (2:Int) ns l nx st h0 h1 h2) (by kernel_rfl)) gn)))))))))
theorem mado_ex(ns nr:Int)(l:List Int)(nx st:Int)(h:0≤nx∧nx≤100000)(hs:2≤ns∧ns≤12)(hr:1≤nr∧nr≤20):∃ r:Cup × Int × Int,FMM Tryz.prog 26 [.ptr 0 0,.p (intP ns),.p (intP nr)] [some (deckO l nx st)] (.agg [.p (intP r.1.sk),.p (intP r.1.ra),.p (intP r.1.be),.p (intsP r.1.pts),.own 1]) [some (deckO l r.2.1 r.2.2),some (.row 22 r.1.done.length (r.1.done.map intsP))]∧KL.Valid r.1∧2≤r.1.sk∧r.1.sk≤ns∧r.1.ra≤nr∧r.1.pts.length≤10∧(∀ x∈r.1.pts,x≤40)∧nx≤r.2.1∧r.2.1≤nx+3000:=by
  have a1:=btwM_bd 2 ns l nx st
  obtain ⟨⟨r0,m1,t2⟩,e1⟩:∃ q,q=btwM 2 ns l nx st:=⟨_,rfl⟩
  rw [← e1] at a1
  have a2:=btwM_bd 1 nr l m1 t2
  obtain ⟨⟨r3,m4,t5⟩,e2⟩:∃ q,q=btwM 1 nr l m1 t2:=⟨_,rfl⟩
  rw [← e2] at a2
  have a3:=btwM_bd 1 r3 l m4 t5
  obtain ⟨⟨r6,m7,t8⟩,e3⟩:∃ q,q=btwM 1 r3 l m4 t5:=⟨_,rfl⟩
  rw [← e3] at a3
  have a4:=btwM_bd 10 40 l m7 t8
  obtain ⟨⟨r9,m10,t11⟩,e4⟩:∃ q,q=btwM 10 40 l m7 t8:=⟨_,rfl⟩
  rw [← e4] at a4
  have a5:=btwM_bd 1 10 l m10 t11
  obtain ⟨⟨r12,m13,t14⟩,e5⟩:∃ q,q=btwM 1 10 l m10 t11:=⟨_,rfl⟩
  rw [← e5] at a5
  dsimp only at a1 a2 a3 a4 a5
  obtain ⟨pts,pa,mx,tt,L1,i1,b1,b2⟩:=made_pts (l:=l) (r0:=r0) (r3:=r3) (r6:=r6) (r12:=r12) (by omega) r12.toNat 0 [] r9 m13 t14 (by omega) ⟨rfl,by omega,by simp,.nil⟩ (by omega) (by omega)
  have a6:=drawM_bd (r3+1) l mx tt
  obtain ⟨⟨r20,m21,t22⟩,e6⟩:∃ q,q=drawM (r3+1) l mx tt:=⟨_,rfl⟩
  rw [← e6] at a6
  dsimp only at a6
  obtain ⟨dn,mx2,tt2,L2,l2,i2,b3,b4⟩:=made_done (l:=l) (r0:=r0) (r3:=r3) (r6:=r6) (r20:=r20) (pts:=pts) (by omega) (by omega) r20.toNat 0 [] m21 t22 (by omega) rfl (by simp) (by omega) (by omega)
  rw [Nat.zero_add] at L1 L2 l2 i1
  refine ⟨(⟨r0,r3,r6,pts,dn⟩,mx2,tt2),mado_p0 (r0:=r0) (r3:=r3) (r6:=r6) (pts'16:=pts) (dn'24:=dn) (mx'25:=mx2) (tt'26:=tt2) (by omega) (by omega) e1.symm (by omega) (by omega) e2.symm (by omega) (by omega) e3.symm (by omega) (by omega) e4.symm (by omega) (by omega) e5.symm L1 (by unfold inR;omega) (by omega) e6.symm L2,?_,by dsimp only;omega,by dsimp only;omega,by dsimp only;omega,by have:=i1.len;dsimp only;omega,fun x hx=>(i1.bd x hx).2,by dsimp only;omega,by dsimp only;omega⟩
  have hpl:=i1.len
  exact { sk1:=by dsimp only;omega,sk2:=by dsimp only;omega,ra1:=by dsimp only;omega,ra2:=by dsimp only;omega,be1:=by dsimp only;omega,be2:=by dsimp only;omega,pt1:=by dsimp only;omega,pt2:=by dsimp only;omega,dn:=by dsimp only;omega,
          len:=fun r hr=>by have:=(i2 r hr).len;dsimp only;omega,
          pts:=fun x hx=>by have:=i1.bd x hx;have:=i1.pa1;omega,
          rows:=fun r hr x hx=>(i2 r hr).bd x hx,
          falls:=falls_of i1.pw,
          clash:=by
            rw [List.any_eq_false]
            intro r hr
            have:=(KL.clash_iff r (fun x hx=>((i2 r hr).bd x hx).1)).2 (i2 r hr).cl
            simp [this] }
open Classical in
noncomputable def madoM(ns nr:Int)(l:List Int)(nx st:Int):Cup × Int × Int:=if h:(0≤nx∧nx≤100000)∧(2≤ns∧ns≤12)∧1≤nr∧nr≤20 then Classical.choose (mado_ex ns nr l nx st h.1 h.2.1 h.2.2) else (⟨0,0,0,[],[]⟩,nx,st)
theorem madoM_spec(ns nr:Int)(l:List Int)(nx st:Int)(h:0≤nx∧nx≤100000)(hs:2≤ns∧ns≤12)(hr:1≤nr∧nr≤20):FMM Tryz.prog 26 [.ptr 0 0,.p (intP ns),.p (intP nr)] [some (deckO l nx st)] (.agg [.p (intP (madoM ns nr l nx st).1.sk),.p (intP (madoM ns nr l nx st).1.ra),.p (intP (madoM ns nr l nx st).1.be),.p (intsP (madoM ns nr l nx st).1.pts),.own 1]) [some (deckO l (madoM ns nr l nx st).2.1 (madoM ns nr l nx st).2.2),some (.row 22 (madoM ns nr l nx st).1.done.length ((madoM ns nr l nx st).1.done.map intsP))]∧KL.Valid (madoM ns nr l nx st).1∧2≤(madoM ns nr l nx st).1.sk∧(madoM ns nr l nx st).1.sk≤ns∧(madoM ns nr l nx st).1.ra≤nr:=by
  unfold madoM
  rw [dif_pos ⟨h,hs,hr⟩]
  have q:=Classical.choose_spec (mado_ex ns nr l nx st h hs hr)
  exact ⟨q.1,q.2.1,q.2.2.1,q.2.2.2.1,q.2.2.2.2.1⟩
theorem mado_eq{c:Cup}{nx' st':Int}(ns nr:Int)(l:List Int)(nx st:Int)(h:0≤nx∧nx≤100000)(hs:2≤ns∧ns≤12)(hr:1≤nr∧nr≤20)(e:madoM ns nr l nx st=(c,nx',st')):FMM Tryz.prog 26 [.ptr 0 0,.p (intP ns),.p (intP nr)] [some (deckO l nx st)] (.agg [.p (intP c.sk),.p (intP c.ra),.p (intP c.be),.p (intsP c.pts),.own 1]) [some (deckO l nx' st'),some (.row 22 c.done.length (c.done.map intsP))]:=by
  have:=(madoM_spec ns nr l nx st h hs hr).1
  rw [e] at this
  exact this
end
section
open KL
theorem Full.mem{n:Nat}{g:List Int}(h:Full n g){p:Int}(h1:1≤p)(h2:p≤n):p∈g:=by
  apply Classical.byContradiction
  intro hn
  have:=nodup_bd n (p::g) (List.nodup_cons.2 ⟨hn,h.nd⟩) (fun x hx=>by
    rcases List.mem_cons.1 hx with rfl | hx
    · exact ⟨h1,h2⟩
    · exact h.bd x hx)
  rw [List.length_cons,h.len] at this
  omega
theorem full_sorted{n:Nat}{f:List Int}(h:Full n f):f.mergeSort leB=(List.range n).map fun i:Nat=>(i:Int)+1:=by
  have hp:(f.mergeSort leB).Pairwise fun a b=>leB a b=true:=List.pairwise_mergeSort (fun a b c=>by unfold leB;simp only [decide_eq_true_eq];omega) (fun a b=>by unfold leB;simp only [Bool.or_eq_true,decide_eq_true_eq];omega) f
  have hd:(f.mergeSort leB).Nodup:=(List.mergeSort_perm f leB).nodup_iff.2 h.nd
  refine srt_ext (r:=fun a b:Int=>a<b) (fun a b h1 h2=>by omega) ?_ ?_ fun x => ?_
  · refine (hp.and hd).imp fun {a b} hab => ?_
    have h1:=hab.1
    have h2:=hab.2
    unfold leB at h1
    simp only [decide_eq_true_eq] at h1
    omega
  · refine List.pairwise_map.2 (List.pairwise_lt_range.imp fun {a b} hab => ?_)
    omega
  · rw [(List.mergeSort_perm f leB).mem_iff,List.mem_map]
    constructor
    · intro hx
      have:=h.bd x hx
      exact ⟨(x-1).toNat,List.mem_range.2 (by omega),by omega⟩
    · rintro ⟨i,hi,rfl⟩
      have:=List.mem_range.1 hi
      exact h.mem (by omega) (by omega)
theorem full_at{n:Nat}{f:List Int}(h:Full n f){i:Nat}(hi:i<n):(f.mergeSort leB)[i]? = some ((i:Int)+1):=by
  rw [full_sorted h,List.getElem?_map,List.getElem?_range hi];rfl
theorem full_srt_len{n:Nat}{f:List Int}(h:Full n f):(f.mergeSort leB).length=n:=by
  rw [List.length_mergeSort,h.len]
theorem shuf_full(n:Int)(l:List Int)(nx st:Int):Full n.toNat ((shufM n l nx st).1.map fun x=>x+1):=by
  obtain ⟨hp,_,_⟩:=shufM_perm n l nx st
  refine ⟨?_,fun x hx => ?_,?_⟩
  · rw [List.length_map,hp.length_eq];simp [upL]
  · obtain ⟨y,hy,rfl⟩:=List.mem_map.1 hx
    have:=upL_mem (hp.mem_iff.1 hy)
    omega
  · have:=(hp.nodup_iff).2 (upL_nodup n.toNat)
    refine List.pairwise_map.2 (this.imp fun {a b} hab he=>hab ?_)
    omega
def LastK(c:Cup)(k:Int):Prop:=KL.Valid c∧(0≤k∧k<c.sk)∧(c.done.length:Int)+1=c.ra
def NotK(c:Cup)(k:Int):Prop:=KL.Valid c∧(0≤k∧k<c.sk)∧(c.done.length:Int)+1≠c.ra
theorem lastK_e{c:Cup}{k:Int}(h:LastK c k):lastE c ((k.toNat:Nat):Int)=0:=by
  obtain ⟨hV,hk,hd⟩:=h
  rw [Int.toNat_of_nonneg hk.1]
  unfold lastE
  rw [if_neg (by rw [named_in hV hk.1 hk.2];simp),if_neg (by omega)]
theorem notK_e{c:Cup}{k:Int}(h:NotK c k):lastE c ((k.toNat:Nat):Int)=9:=by
  obtain ⟨hV,hk,hd⟩:=h
  rw [Int.toNat_of_nonneg hk.1]
  unfold lastE
  rw [if_neg (by rw [named_in hV hk.1 hk.2];simp),if_pos (by omega)]
theorem LastK.ok{c:Cup}{k:Int}(h:LastK c k):LastOK c k.toNat:=⟨h.1,by have:=h.2.2;omega,by have:=h.2.1;omega⟩
section
variable (c:Cup) (k:Int) {base:Nat}
theorem wor_i(h:LastK c k):FV Tryz.prog 55 [.p (cupP c),.p (intP k)] base (.tup [.p (intP (worstM c k.toNat).1),.p (intsP (worstM c k.toNat).2.2),.p (intP 0)]) []:=by
  have:=worst_ok c k.toNat (lastK_e h) (base:=base)
  rwa [Int.toNat_of_nonneg h.2.1.1] at this
theorem wor_e(h:NotK c k):FV Tryz.prog 55 [.p (cupP c),.p (intP k)] base (.tup [.p (intP 0),.p nilS,.p (intP 9)]) []:=by
  have:=worst_err c h.1.small k.toNat (by rw [notK_e h];omega) (base:=base)
  rwa [notK_e h,Int.toNat_of_nonneg h.2.1.1] at this
theorem ful_s(f:List Int)(h:LastK c k)(e:fullM c k.toNat=some f):FV Tryz.prog 56 [.p (cupP c),.p (intP k)] base (.tup [.p (intsP f),.p (intP 0)]) []:=by
  have:=full_ok c k.toNat (lastK_e h) (base:=base)
  rwa [e,Int.toNat_of_nonneg h.2.1.1] at this
theorem ful_n(h:LastK c k)(e:fullM c k.toNat=none):FV Tryz.prog 56 [.p (cupP c),.p (intP k)] base (.tup [.p nilS,.p (intP 6)]) []:=by
  have:=full_ok c k.toNat (lastK_e h) (base:=base)
  rwa [e,Int.toNat_of_nonneg h.2.1.1] at this
theorem ful_e(h:NotK c k):FV Tryz.prog 56 [.p (cupP c),.p (intP k)] base (.tup [.p nilS,.p (intP 9)]) []:=by
  have:=full_err c h.1.small k.toNat (by rw [notK_e h];omega) (base:=base)
  rwa [notK_e h,Int.toNat_of_nonneg h.2.1.1] at this
theorem blo_s(q:Int)(h:LastK c k)(e:blockM c k.toNat=some q):FV Tryz.prog 57 [.p (cupP c),.p (intP k)] base (.tup [.p (intP q),.p (intP 0)]) []:=by
  have:=block_ok c k.toNat (lastK_e h) (base:=base)
  rwa [e,Int.toNat_of_nonneg h.2.1.1] at this
theorem blo_n(h:LastK c k)(e:blockM c k.toNat=none):FV Tryz.prog 57 [.p (cupP c),.p (intP k)] base (.tup [.p (intP 0),.p (intP 6)]) []:=by
  have:=block_ok c k.toNat (lastK_e h) (base:=base)
  rwa [e,Int.toNat_of_nonneg h.2.1.1] at this
theorem bls_i(p:Int)(h:LastK c k)(hp:2≤p∧p≤c.sk):FV Tryz.prog 58 [.p (cupP c),.p (intP k),.p (intP p)] base (.tup [.p (blP (blkM c k.toNat p)),.p (intP 0)]) []:=by
  have:=blocks_ok c k.toNat p (lastK_e h) (base:=base)
  rwa [if_pos (by unfold within;simp;omega),Int.toNat_of_nonneg h.2.1.1] at this
theorem sho_i(f:List (List Int))(h:LastK c k)(hF:FurN c f):FV Tryz.prog 72 [.p (cupP c),.p (intP k),.p (rowsP f)] base (.tup [.p (blP (decide (rankM (withC c f) k.toNat=1))),.p (intP 0)]) []:=by
  have:=shows_ok c k.toNat f h.1 (by have:=h.2.1;omega) hF (base:=base)
  rwa [Int.toNat_of_nonneg h.2.1.1] at this
end
end
section
open KL
noncomputable abbrev zU22c0:Code:=sub (cd Tryz.f16) [1,1,1,1,1,1,1,1,1,1,1,1,1,1,0,1,0,0,1,1,0,0,1,0,1,0,0]
noncomputable abbrev zU22c1:Code:=sub (cd Tryz.f16) [1,1,1,1,1,1,1,1,1,1,1,1,1,1,0,1,0,0]
noncomputable abbrev zU22c2:Code:=sub (cd Tryz.f16) [1,1,1,1,1,0,0,0]
noncomputable abbrev zU22c3:Code:=sub (cd Tryz.f16) [1,1,1,1,1,1]
noncomputable abbrev zU22c4:Code:=sub (cd Tryz.f82) [1,0,1,0,0]
noncomputable abbrev zU22c5:Code:=sub (cd Tryz.f16) [1,1,1,1,1,1,1,1,1,1,1,1,1,0,1,0,1,1,0,1,0,0]
theorem zU22q0:((0:Int) != (0:Int))=false:=by first | decide | simp
theorem zU22q1:((6:Int) != (6:Int))=false:=by first | decide | simp
theorem zU22q2:((6:Int) != (0:Int))=true:=by first | decide | simp
theorem zU22q3:((9:Int) != (9:Int))=false:=by first | decide | simp
theorem zU22q4:((6:Int) == (0:Int))=false:=by first | decide | simp
theorem lsk_p0{x0 x1 x2 x3 s:Int}{r0:Bool}(er0:r0=(x0 == s)){base:Nat}:FV Tryz.prog 83 [(.p (.agg [(intP x0),(intP x1),(intP x2),(intP x3)])),(.rp [(intP s)] 0)] base (.p (blP r0)) []:=by
  subst er0
  exact FV.fin Tryz.func83 rfl (o:=[.x (intP s)]) (l:=[[(intP s)][0]? = some (intP s)]) (by kernel_rfl) (gc rfl gn)
theorem lsk_ok(x0 x1 x2 x3 s:Int){base:Nat}:FV Tryz.prog 83 [.p (.agg [intP x0,intP x1,intP x2,intP x3]),.rp [intP s] 0] base (.p (blP (x0 == s))) []:=lsk_p0 rfl
def ixl_S0(l:List (List Int))(s:Int)(i:Nat):St:=⟨fr 19 [(0,(.p (.sl l.length (l.flatten.map intP)))),(1,(.fn 83 [] [(.rp [(intP s)] 0)])),(7,(.p (intP (l.length:Int)))),(8,(.p (intP (i:Int))))],[]⟩
theorem ixl_p1{l:List (List Int)}{s:Int}{i'0:Nat}(hl0:LoopOK Tryz.prog 0 zU22c4 (ixl_S0 l s 0) .ret (setS (ixl_S0 l s i'0) [(4,(.p (intP (i'0:Int))))])){base:Nat}:FV Tryz.prog 82 [(.p (.sl l.length (l.flatten.map intP))),(.fn 83 [] [(.rp [(intP s)] 0)])] base (.p (intP (i'0:Int))) []:=by
  exact FV.fin Tryz.func82 rfl (o:=[.k 6 ⟨(rng [(2,5),(9,10)]),[],[],[]⟩ .ret (setS (ixl_S0 l s i'0) [(4,(.p (intP (i'0:Int))))])]) (l:=[_]) (by kernel_rfl) (gc hl0.code gn)
theorem ixl_L0_p0{l:List (List Int)}{s:Int}{i:Nat}{y100 y101 y102 y103:Int}(h0:(i:Int)<(l.length:Int))(h1:l[i]? = some [y100,y101,y102,y103])(h2:uni 4 l)(h3:(y100 == s)=true):CodeOK Tryz.prog 0 zU22c4 (ixl_S0 l s i) .ret (setS (ixl_S0 l s i) [(4,(.p (intP (i:Int))))]):=by
  exact CodeOK.fin (g:=⟨(rng [(2,2),(5,2),(9,10)]),[],[],[]⟩) (o:=[bT,.x (.agg [(intP y100),(intP y101),(intP y102),(intP y103)]),.c (.p (blP (y100 == s))) [],bT]) (l:=[_,_,_,_,0≤(i:Int)∧(i:Int)<(l.length:Int)∧(i*4)<(l.flatten.map intP).length,_]) (by kernel_rfl) (gc h3 (gc (fk 0 (lsk_ok y100 y101 y102 y103 s) rfl) (gc (fl_load (i:=i) h2 h1) (gc (fl_le (i:=i) h2 h1) (gc (ix_fl (k:=4) (i:=(i:Int)) (by decide) h2 (Int.natCast_nonneg _) h1) (gc (q_lt h0) gn))))))
theorem ixl_L0_p1{l:List (List Int)}{s:Int}{i:Nat}{y100 y101 y102 y103:Int}{i':Nat}(h0:(i:Int)<(l.length:Int))(h1:l[i]? = some [y100,y101,y102,y103])(h2:uni 4 l)(h3:(y100 == s)=false)(h4:inR (((i+1):Nat):Int))(ei':i'=(i+1)):CodeOK Tryz.prog 0 zU22c4 (ixl_S0 l s i) .normal (ixl_S0 l s i'):=by
  subst ei'
  exact CodeOK.fin (g:=⟨(rng [(2,5),(9,10)]),[],[],[]⟩) (o:=[bT,.x (.agg [(intP y100),(intP y101),(intP y102),(intP y103)]),.c (.p (blP (y100 == s))) [],bF]) (l:=[_,_,_,_,_,0≤(i:Int)∧(i:Int)<(l.length:Int)∧(i*4)<(l.flatten.map intP).length,_]) (by kernel_rfl) (gc h4 (gc h3 (gc (fk 0 (lsk_ok y100 y101 y102 y103 s) rfl) (gc (fl_load (i:=i) h2 h1) (gc (fl_le (i:=i) h2 h1) (gc (ix_fl (k:=4) (i:=(i:Int)) (by decide) h2 (Int.natCast_nonneg _) h1) (gc (q_lt h0) gn)))))))
theorem ixl_L0_p2{l:List (List Int)}{s:Int}{i:Nat}(h0:(l.length:Int)≤(i:Int)):CodeOK Tryz.prog 0 zU22c4 (ixl_S0 l s i) (.exit 0) (ixl_S0 l s i):=by
  exact CodeOK.fin (g:=⟨(rng [(2,5),(9,10)]),[],[],[]⟩) (o:=[bF]) (l:=[_]) (by kernel_rfl) (gc (q_ltF h0) gn)
theorem ixl_eq(l:List (List Int))(s:Int)(i:Nat)(hl:small l.length)(hu:uni 4 l)(e:idxF (fun x=>decide (x.getD 0 0=s)) l=(i:Int)){base:Nat}:FV Tryz.prog 82 [.p (.sl l.length (l.flatten.map intP)),.fn 83 [] [.rp [intP s] 0]] base (.p (intP (i:Int))) []:=by
  rcases LoopOK.find (P:=Tryz.prog) (k:=0) (b:=zU22c4) (fun i=>ixl_S0 l s i) (fun i _=>setS (ixl_S0 l s i) [(4,.p (intP (i:Int)))]) (ixl_S0 l s l.length) .ret (.exit 0) (by simp) (by simp) (fun x:List Int=>decide (x.getD 0 0=s)) l
    (fun i x hx hp=>by
      have h4:=hu _ (List.mem_of_getElem? hx)
      match x,h4 with
      | [y0,y1,y2,y3],_=>exact ixl_L0_p1 (by have:=lt_of_at hx;omega) hx hu (by simpa using hp) (inR_nat (by have:=lt_of_at hx;omega)) rfl)
    (fun i x hx hp=>by
      have h4:=hu _ (List.mem_of_getElem? hx)
      match x,h4 with
      | [y0,y1,y2,y3],_=>exact ixl_L0_p0 (by have:=lt_of_at hx;omega) hx hu (by simpa using hp))
    (ixl_L0_p2 (l:=l) (i:=l.length) (by omega)) with ⟨i,x,h1,h2,h3,h4⟩ | ⟨h1,h2,h3⟩
  · rw [idxF_some h2] at e
    rw [← e]
    exact ixl_p1 h4
  · rw [idxF_none h1] at e;omega
theorem rnk_p1{c:Cup}{k:Int}{r:List Int}{l0:List (List Int)}{i1:Nat}{y2 y3 y4 y5:Int}(h0:1=l0.length)(h1:[(intsP r)]=l0.map intsP)(h2:KL.Valid c)(h3:KL.Valid (withC c l0))(h4:small (tableM (withC c l0)).length)(h5:uni 4 (tableM (withC c l0)))(h6:idxF (fun x:List Int=>decide (x.getD 0 0=k)) (tableM (withC c l0))=(i1:Int))(h7:(0:Int)≤(i1:Int))(h8:(tableM (withC c l0))[i1]? = some [y2,y3,y4,y5]){base:Nat}:FV Tryz.prog 81 [(.p (intsP r)),(.rp [(intP c.sk),(intP c.ra),(intP c.be),(intsP c.pts),(rowsP c.done)] 0),(.rp [(intP k)] 0)] base (.tup [(.p (intP y3)),(.p (blP true))]) []:=by
  exact FV.fin Tryz.func81 rfl (o:=[.x (cupP c),.c (.tup [(.p (.agg [(intP ((withC c l0).sk)),(intP ((withC c l0).ra)),(intP ((withC c l0).be)),(intsP ((withC c l0).pts)),(rowsP ((withC c l0).done))])),(.p (intP 0))]) [(0,.dead)],.c (.tup [(.p (.sl ((tableM (withC c l0)).length) ((tableM (withC c l0)).flatten.map intP))),(.p (intP 0))]) [],.c (.p (intP (i1:Int))) [],bF,bF,bF,bF,bF,bF,bF,.x (intP y3)]) (l:=[((tableM (withC c l0)).flatten.map intP)[((i1*4)+1)]? = some (intP y3),0≤(i1:Int)∧(i1:Int)<(((tableM (withC c l0)).length:Nat):Int)∧(i1*4)<((tableM (withC c l0)).flatten.map intP).length,_,_,_,_,_,_,_,_,_,FC Tryz.prog 44 [(.p (cupP c)),(.own 0)] [(0,(.row 22 1 [(intsP r)]))] 1 (.tup [(.p (.agg [(intP ((withC c l0).sk)),(intP ((withC c l0).ra)),(intP ((withC c l0).be)),(intsP ((withC c l0).pts)),(rowsP ((withC c l0).done))])),(.p (intP 0))]) [(0,.dead)],some (.agg (([(intP c.sk),(intP c.ra),(intP c.be),(intsP c.pts),(rowsP c.done)].drop 0).take 5):PV)=some (cupP c),0+5≤[(intP c.sk),(intP c.ra),(intP c.be),(intsP c.pts),(rowsP c.done)].length]) (by kernel_rfl) (gc (fl_field (i:=i1) (f:=1) h5 h8 rfl) (gc (ix_fl (k:=4) (i:=(i1:Int)) (by decide) h5 (Int.natCast_nonneg _) h8) (gc (q_ltF h7) (gc zU22q0 (gc zU22q0 (gc zU22q0 (gc zU22q0 (gc zU22q0 (gc zU22q0 (gc (fk 2 (ixl_eq (tableM (withC c l0)) k i1 h4 h5 h6) rfl) (gc (fk 2 (table_ok (withC c l0) h3) rfl) (gc (FV.close (ids:=[0]) (args':=[(.p (cupP c)),(.p (.sl 1 [(intsP r)]))]) (by rw [show ((.sl 1 [(intsP r)]):PV)=rowsP l0 from sl_cast h0 h1];exact (after3_ok c l0 h2 h3)) (by kernel_rfl)) (gc rfl (gc (by first | decide | simp) gn))))))))))))))
theorem idx_row{c:Cup}{k:Nat}(hk:k<c.sk.toNat):∃ i:Nat,idxF (fun x:List Int=>decide (x.getD 0 0=(k:Int))) (tableM c)=(i:Int)∧(tableM c)[i]? = some (rowT c k):=by
  have hm:rowT c k∈tableM c:=(table_perm c).mem_iff.2 (List.mem_map.2 ⟨k,List.mem_range.2 hk,rfl⟩)
  cases e:(tableM c).findIdx? (fun x:List Int=>decide (x.getD 0 0=(k:Int))) with
  | none =>
    have:=List.findIdx?_eq_none_iff.1 e _ hm
    simp [rowT] at this
  | some i =>
    obtain ⟨h1,h2,_⟩:=List.findIdx?_eq_some_iff_getElem.1 e
    obtain ⟨j,_,h4⟩:=table_row c h1
    refine ⟨i,idxF_some e,?_⟩
    rw [List.getElem?_eq_getElem h1,Option.some.injEq] at h4
    rw [h4] at h2
    have h5:(j:Int)=(k:Int):=by simpa [rowT] using h2
    rw [List.getElem?_eq_getElem h1,h4,Int.ofNat_inj.1 h5]
theorem rnk_ok(c:Cup)(k:Int)(r:List Int)(h:LastK c k)(hr:RaceN c r){base:Nat}:FV Tryz.prog 81 [.p (intsP r),.rp [intP c.sk,intP c.ra,intP c.be,intsP c.pts,rowsP c.done] 0,.rp [intP k] 0] base (.tup [.p (intP (rankM (withC c [r]) k.toNat)),.p (blP true)]) []:=by
  have hW:=hr.valid h.ok
  obtain ⟨i,h1,h2⟩:=idx_row (c:=withC c [r]) (k:=k.toNat) (by have:=h.2.1;show k.toNat<c.sk.toNat;omega)
  rw [Int.toNat_of_nonneg h.2.1.1] at h1
  have:=tableM_len hW
  exact rnk_p1 (l0:=[r]) rfl rfl h.1 hW (by unfold small;omega) (tableM_uni _) h1 (by omega) h2
theorem clo_p0{l:List Int}(h0:(l.map intP).length=l.length*1∧l.length≤1000000){base:Nat}:FV Tryz.prog 21 [(.p (intsP l))] base (.own base) [(base,(.row 3 l.length (l.map intP)))]:=by
  exact FV.fin Tryz.func21 rfl (o:=[]) (l:=[_]) (by kernel_rfl) (gc h0 gn)
def lhA_S0(g:List Int)(w:Int)(c0:Cup)  : St:=⟨fr 295 [(7,(.ptr 0 0)),(8,(.ptr 1 0)),(9,(.ptr 2 0))],[some (.box 25 [(.p (intP c0.sk)),(.p (intP c0.ra)),(.p (intP c0.be)),(.p (intsP c0.pts)),(.p (.sl (c0.done.length-1) (((c0.done.map intsP).drop (1*1)).take ((c0.done.length-1)*1))))]),some (deckO g 0 (17:Int)),some (.box 3 [(.p (intP (w.tmod c0.sk)))])]⟩
theorem lhA_p0{g l:List Int}{w:Int}{c0:Cup}{m1 t2:Int}(h0:0≤(0:Int)∧(0:Int)≤100000)(h1:2≤(8:Int)∧(8:Int)≤12)(h2:1≤(6:Int)∧(6:Int)≤20)(h3:madoM (8:Int) (6:Int) l (0:Int) (17:Int)=(c0,m1,t2))(h4:inR w)(h5:c0.sk≠0)(h6:(c0.done.length:Int)=c0.ra)(h7:0≤(1:Int)∧(1:Int)≤(c0.done.length:Int)∧(c0.done.length:Int)≤(c0.done.length:Int)∧(c0.done.map intsP).length=c0.done.length*1)(hl8:LoopOK Tryz.prog 0 zU22c2 (lhA_S0 g w c0 ) (.exit 0) (lhA_S0 g w c0 ))(hl9:CodeOK Tryz.prog 0 zU22c3 ⟨fr 295 [(7,(.ptr 0 0)),(8,(.ptr 1 0)),(9,(.ptr 2 0))],[some (.box 25 [(.p (intP c0.sk)),(.p (intP c0.ra)),(.p (intP c0.be)),(.p (intsP c0.pts)),(.p (.sl (c0.done.length-1) (((c0.done.map intsP).drop (1*1)).take ((c0.done.length-1)*1))))]),some (deckO g 0 (17:Int)),some (.box 3 [(.p (intP (w.tmod c0.sk)))])]⟩ .ret ⟨fr 295 [(6,(.p (blP true)))],[]⟩){base:Nat}:FV Tryz.prog 16 [(.p (.sl l.length (l.map byteP))),(.p (.sl g.length (g.map byteP))),(.p (.v (.int .u8 w)))] base (.p (blP true)) []:=by
  exact FV.fin Tryz.func16 rfl (o:=[.c (.ptr 0 0) [(0,(deckO l 0 (17:Int)))],.c (.agg [(.p (intP c0.sk)),(.p (intP c0.ra)),(.p (intP c0.be)),(.p (intsP c0.pts)),(.own 1)]) [(0,(deckO l m1 t2)),(1,(.row 22 c0.done.length (c0.done.map intsP)))],.c (.ptr 3 0) [(3,(deckO g 0 (17:Int)))],bT,.g 0 ⟨[],[0,2,3,4],[1],[]⟩,.k 2 ⟨(rng [(0,7),(10,5),(25,1),(35,1),(43,55),(171,1)]),[1,2,3],[],[]⟩ (.exit 0) (lhA_S0 g w c0 ),.k 0 ⟨(rng [(0,7),(10,285)]),[0,1,2],[],[]⟩ .ret ⟨fr 295 [(6,(.p (blP true)))],[]⟩]) (l:=[CodeOK Tryz.prog 0 zU22c3 ⟨fr 295 [(7,(.ptr 0 0)),(8,(.ptr 1 0)),(9,(.ptr 2 0))],[some (.box 25 [(.p (intP c0.sk)),(.p (intP c0.ra)),(.p (intP c0.be)),(.p (intsP c0.pts)),(.p (.sl (c0.done.length-1) (((c0.done.map intsP).drop (1*1)).take ((c0.done.length-1)*1))))]),some (deckO g 0 (17:Int)),some (.box 3 [(.p (intP (w.tmod c0.sk)))])]⟩ .ret ⟨fr 295 [(6,(.p (blP true)))],[]⟩,_,_,_,_,_,FC Tryz.prog 27 [(.p (.sl g.length (g.map byteP)))] [] 3 (.ptr 3 0) [(3,(deckO g 0 (17:Int)))],FC Tryz.prog 26 [(.ptr 0 0),(.p (intP 8)),(.p (intP 6))] [(0,(deckO l 0 (17:Int)))] 1 (.agg [(.p (intP c0.sk)),(.p (intP c0.ra)),(.p (intP c0.be)),(.p (intsP c0.pts)),(.own 1)]) [(0,(deckO l m1 t2)),(1,(.row 22 c0.done.length (c0.done.map intsP)))],FC Tryz.prog 27 [(.p (.sl l.length (l.map byteP)))] [] 0 (.ptr 0 0) [(0,(deckO l 0 (17:Int)))]]) (by kernel_rfl) (gc hl9 (gc hl8.code (gc h7 (gc (q_eq h6) (gc h5 (gc h4 (gc (FMM.fc (ids:=[]) (of_ok g) (by kernel_rfl)) (gc (FMM.fc (ids:=[0]) (mado_eq (8:Int) (6:Int) l (0:Int) (17:Int) h0 h1 h2 h3) (by kernel_rfl)) (gc (FMM.fc (ids:=[]) (of_ok l) (by kernel_rfl)) gn)))))))))
theorem lhA_L0_p0{g:List Int}{w:Int}{c0:Cup}(h0:inR (c0.ra-(1:Int)))(h1:(c0.ra-(1:Int))≤(((c0.done.length-1):Nat):Int)):CodeOK Tryz.prog 0 zU22c2 (lhA_S0 g w c0 ) (.exit 0) (lhA_S0 g w c0 ):=by
  exact CodeOK.fin (g:=⟨(rng [(0,7),(10,5),(25,1),(35,1),(43,55),(171,1)]),[0,1,2],[],[]⟩) (o:=[bF]) (l:=[_,_]) (by kernel_rfl) (gc (q_ltF h1) (gc h0 gn))
def lhB_S0(g:List Int)(w:Int)(c0:Cup)(dnn:Nat)(dnc:List PV)(mx:Int)(tt:Int):St:=⟨fr 295 [(7,(.ptr 1 0)),(8,(.ptr 2 0)),(9,(.ptr 3 0))],[some (.row 22 dnn dnc),some (.box 25 [(.p (intP c0.sk)),(.p (intP c0.ra)),(.p (intP c0.be)),(.p (intsP c0.pts)),(.own 0)]),some (deckO g mx tt),some (.box 3 [(.p (intP (w.tmod c0.sk)))])]⟩
theorem lhB_p0{g l:List Int}{w:Int}{c0:Cup}{m1 t2:Int}{dn'3:List (List Int)}{mx'4 tt'5:Int}(h0:0≤(0:Int)∧(0:Int)≤100000)(h1:2≤(8:Int)∧(8:Int)≤12)(h2:1≤(6:Int)∧(6:Int)≤20)(h3:madoM (8:Int) (6:Int) l (0:Int) (17:Int)=(c0,m1,t2))(h4:inR w)(h5:c0.sk≠0)(h6:(c0.done.length:Int)≠c0.ra)(hl7:LoopOK Tryz.prog 0 zU22c2 (lhB_S0 g w c0 c0.done.length (c0.done.map intsP) (0:Int) (17:Int)) (.exit 0) (lhB_S0 g w c0 dn'3.length (dn'3.map intsP) mx'4 tt'5))(hl8:CodeOK Tryz.prog 0 zU22c3 ⟨fr 295 [(7,(.ptr 0 0)),(8,(.ptr 1 0)),(9,(.ptr 2 0))],[some (.box 25 [(.p (intP c0.sk)),(.p (intP c0.ra)),(.p (intP c0.be)),(.p (intsP c0.pts)),(.p (rowsP dn'3))]),some (deckO g mx'4 tt'5),some (.box 3 [(.p (intP (w.tmod c0.sk)))])]⟩ .ret ⟨fr 295 [(6,(.p (blP true)))],[]⟩){base:Nat}:FV Tryz.prog 16 [(.p (.sl l.length (l.map byteP))),(.p (.sl g.length (g.map byteP))),(.p (.v (.int .u8 w)))] base (.p (blP true)) []:=by
  exact FV.fin Tryz.func16 rfl (o:=[.c (.ptr 0 0) [(0,(deckO l 0 (17:Int)))],.c (.agg [(.p (intP c0.sk)),(.p (intP c0.ra)),(.p (intP c0.be)),(.p (intsP c0.pts)),(.own 1)]) [(0,(deckO l m1 t2)),(1,(.row 22 c0.done.length (c0.done.map intsP)))],.c (.ptr 3 0) [(3,(deckO g 0 (17:Int)))],bF,.k 2 ⟨(rng [(0,7),(10,5),(25,1),(35,1),(43,55),(171,1)]),[1,2,3,4],[],[]⟩ (.exit 0) (lhB_S0 g w c0 dn'3.length (dn'3.map intsP) mx'4 tt'5),.k 0 ⟨(rng [(0,7),(10,285)]),[1,2,3],[0],[]⟩ .ret ⟨fr 295 [(6,(.p (blP true)))],[]⟩]) (l:=[CodeOK Tryz.prog 0 zU22c3 ⟨fr 295 [(7,(.ptr 0 0)),(8,(.ptr 1 0)),(9,(.ptr 2 0))],[some (.box 25 [(.p (intP c0.sk)),(.p (intP c0.ra)),(.p (intP c0.be)),(.p (intsP c0.pts)),(.p (rowsP dn'3))]),some (deckO g mx'4 tt'5),some (.box 3 [(.p (intP (w.tmod c0.sk)))])]⟩ .ret ⟨fr 295 [(6,(.p (blP true)))],[]⟩,_,_,_,_,FC Tryz.prog 27 [(.p (.sl g.length (g.map byteP)))] [] 3 (.ptr 3 0) [(3,(deckO g 0 (17:Int)))],FC Tryz.prog 26 [(.ptr 0 0),(.p (intP 8)),(.p (intP 6))] [(0,(deckO l 0 (17:Int)))] 1 (.agg [(.p (intP c0.sk)),(.p (intP c0.ra)),(.p (intP c0.be)),(.p (intsP c0.pts)),(.own 1)]) [(0,(deckO l m1 t2)),(1,(.row 22 c0.done.length (c0.done.map intsP)))],FC Tryz.prog 27 [(.p (.sl l.length (l.map byteP)))] [] 0 (.ptr 0 0) [(0,(deckO l 0 (17:Int)))]]) (by kernel_rfl) (gc hl8 (gc hl7.code (gc (q_ne h6) (gc h5 (gc h4 (gc (FMM.fc (ids:=[]) (of_ok g) (by kernel_rfl)) (gc (FMM.fc (ids:=[0]) (mado_eq (8:Int) (6:Int) l (0:Int) (17:Int) h0 h1 h2 h3) (by kernel_rfl)) (gc (FMM.fc (ids:=[]) (of_ok l) (by kernel_rfl)) gn))))))))
theorem lhB_L0_p0{g:List Int}{w:Int}{c0:Cup}{dn:List (List Int)}{mx tt:Int}{r100:List Int}{m101 t102:Int}{dn':List (List Int)}(h0:inR (c0.ra-(1:Int)))(h1:(dn.length:Int)<(c0.ra-(1:Int)))(h2:NotK (⟨c0.sk,c0.ra,c0.be,c0.pts,dn⟩:Cup) (w.tmod c0.sk))(h3:0≤mx∧mx≤1000000)(h4:0≤c0.sk∧c0.sk≤15)(h5:racedM c0.sk true g mx tt=(r100,m101,t102))(h6:[(intsP r100)].length=1*1∧dn.length+1≤1000000)(edn'n:dn'.length=(dn.length+1))(edn'c:dn'.map intsP=((dn.map intsP)++[(intsP r100)])):CodeOK Tryz.prog 0 zU22c2 (lhB_S0 g w c0 dn.length (dn.map intsP) mx tt) .normal (lhB_S0 g w c0 dn'.length (dn'.map intsP) m101 t102):=by
  have raw:CodeOK Tryz.prog 0 zU22c2 (lhB_S0 g w c0 dn.length (dn.map intsP) mx tt) .normal (lhB_S0 g w c0 (dn.length+1) ((dn.map intsP)++[(intsP r100)]) m101 t102):=CodeOK.fin (g:=⟨(rng [(0,7),(10,5),(25,1),(35,1),(43,55),(171,1)]),[9,1,2,3],[],[]⟩) (o:=[bT,.c (.tup [(.p (intP 0)),(.p nilS),(.p (intP 9))]) [],.c (.tup [(.p nilS),(.p (intP 9))]) [],bF,bF,bF,bF,.c (.own 4) [(2,(deckO g m101 t102)),(4,(.row 3 r100.length (r100.map intP)))]]) (l:=[_,FC Tryz.prog 67 [(.ptr 2 0),(.p (intP c0.sk)),(.kb true)] [(2,(deckO g mx tt))] 4 (.own 4) [(2,(deckO g m101 t102)),(4,(.row 3 r100.length (r100.map intP)))],_,_,_,_,FC Tryz.prog 56 [(.agg [(.p (intP c0.sk)),(.p (intP c0.ra)),(.p (intP c0.be)),(.p (intsP c0.pts)),(.own 0)]),(.p (intP (w.tmod c0.sk)))] [(0,(.row 22 dn.length (dn.map intsP)))] 4 (.tup [(.p nilS),(.p (intP 9))]) [],FC Tryz.prog 55 [(.agg [(.p (intP c0.sk)),(.p (intP c0.ra)),(.p (intP c0.be)),(.p (intsP c0.pts)),(.own 0)]),(.p (intP (w.tmod c0.sk)))] [(0,(.row 22 dn.length (dn.map intsP)))] 4 (.tup [(.p (intP 0)),(.p nilS),(.p (intP 9))]) [],_,_]) (by kernel_rfl) (gc h6 (gc (FMM.fc (ids:=[2]) (raced_eq c0.sk true g mx tt h3 h4 h5) (by kernel_rfl)) (gc zU22q3 (gc zU22q3 (gc zU22q3 (gc zU22q3 (gc (fv (ful_e (⟨c0.sk,c0.ra,c0.be,c0.pts,dn⟩:Cup) (w.tmod c0.sk) h2)) (gc (fv (wor_e (⟨c0.sk,c0.ra,c0.be,c0.pts,dn⟩:Cup) (w.tmod c0.sk) h2)) (gc (q_lt h1) (gc h0 gn))))))))))
  exact raw.cast (by rw [edn'n,edn'c])
theorem lhB_L0_p1{g:List Int}{w:Int}{c0:Cup}{dn:List (List Int)}{mx tt:Int}(h0:inR (c0.ra-(1:Int)))(h1:(c0.ra-(1:Int))≤(dn.length:Int)):CodeOK Tryz.prog 0 zU22c2 (lhB_S0 g w c0 dn.length (dn.map intsP) mx tt) (.exit 0) (lhB_S0 g w c0 dn.length (dn.map intsP) mx tt):=by
  exact CodeOK.fin (g:=⟨(rng [(0,7),(10,5),(25,1),(35,1),(43,55),(171,1)]),[0,1,2,3],[],[]⟩) (o:=[bF]) (l:=[_,_]) (by kernel_rfl) (gc (q_ltF h1) (gc h0 gn))
def ltS_S1(c:Cup)(s:Int)(g:List Int)(mx:Int)(tt:Int)(f0:List Int)(i:Nat):St:=⟨fr 295 [(7,(.ptr 0 0)),(8,(.ptr 1 0)),(9,(.ptr 2 0)),(15,(.p (intP ((worstM c s.toNat).1)))),(18,(.p (intsP f0))),(19,(.p (intP 0))),(22,(.fn 81 [] [(.ptr 0 0),(.ptr 2 0)])),(172,(.own 3)),(173,(.p (intP (((f0.mergeSort KL.leB).length:Nat):Int)))),(174,(.p (intP (i:Int))))],[some (.box 25 [(.p (intP c.sk)),(.p (intP c.ra)),(.p (intP c.be)),(.p (intsP c.pts)),(.p (rowsP c.done))]),some (deckO g mx tt),some (.box 3 [(.p (intP s))]),some (.row 3 ((f0.mergeSort KL.leB).length) ((f0.mergeSort KL.leB).map intP))]⟩
def ltS_S2(c:Cup)(s:Int)(g:List Int)(i:Nat)(my:Int)(ty:Int):St:=⟨fr 295 [(7,(.ptr 0 0)),(8,(.ptr 1 0)),(9,(.ptr 2 0)),(15,(.p (intP ((worstM c s.toNat).1)))),(19,(.p (intP 0))),(22,(.fn 81 [] [(.ptr 0 0),(.ptr 2 0)])),(216,(.p (intP (i:Int))))],[some (.box 25 [(.p (intP c.sk)),(.p (intP c.ra)),(.p (intP c.be)),(.p (intsP c.pts)),(.p (rowsP c.done))]),some (deckO g my ty),some (.box 3 [(.p (intP s))])]⟩
theorem ltS_p4{c:Cup}{s:Int}{g:List Int}{mx tt:Int}{f0:List Int}{l1:List (List Int)}{i'2 i'3:Nat}{my'4 ty'5:Int}(h0:LastK c s)(h1:fullM c s.toNat=some f0)(h2:blockM c s.toNat=none)(h3:(((0:Int) == (0:Int)) == ((6:Int) == (0:Int)))=false)(h4:RaceN c ((worstM c s.toNat).2.2))(h5:(rankM (withC c [((worstM c s.toNat).2.2)]) s.toNat)=((worstM c s.toNat).1))(h6:1=l1.length)(h7:[(intsP ((worstM c s.toNat).2.2))]=l1.map intsP)(h8:FurN c l1)(h9:(f0.map intP).length=f0.length*1∧f0.length≤1000000)(h10:f0.length≤1000)(hl11:LoopOK Tryz.prog 0 zU22c5 (ltS_S1 c s g mx tt f0 0) (.exit 2) (ltS_S1 c s g mx tt f0 i'2))(h12:RaceN c f0)(h13:(rankM (withC c [f0]) s.toNat)=(1:Int))(h14:(f0.length:Int)=c.sk)(hl15:LoopOK Tryz.prog 0 zU22c1 (ltS_S2 c s g 0 mx tt) (.exit 4) (ltS_S2 c s g i'3 my'4 ty'5)):CodeOK Tryz.prog 0 zU22c3 ⟨fr 295 [(7,(.ptr 0 0)),(8,(.ptr 1 0)),(9,(.ptr 2 0))],[some (.box 25 [(.p (intP c.sk)),(.p (intP c.ra)),(.p (intP c.be)),(.p (intsP c.pts)),(.p (rowsP c.done))]),some (deckO g mx tt),some (.box 3 [(.p (intP s))])]⟩ .ret ⟨fr 295 [(6,(.p (blP true)))],[]⟩:=by
  exact CodeOK.fin (g:=⟨(rng [(0,6),(7,288)]),[],[],[]⟩) (o:=[.c (.tup [(.p (intP ((worstM c s.toNat).1))),(.p (intsP ((worstM c s.toNat).2.2))),(.p (intP 0))]) [],.c (.tup [(.p (intsP f0)),(.p (intP 0))]) [],.c (.tup [(.p (intP 0)),(.p (intP 6))]) [],bF,bF,bF,bF,bF,bF,bF,bF,bF,bF,bF,bT,bT,bF,bT,bF,bF,.c (.tup [(.p (intP (rankM (withC c [((worstM c s.toNat).2.2)]) s.toNat))),(.p (blP true))]) [],bF,bF,bF,bF,bF,.c (.tup [(.p (blP (decide (rankM (withC c l1) s.toNat=1)))),(.p (intP 0))]) [],bF,bT,.c (.own 4) [(4,(.row 3 f0.length (f0.map intP)))],.c (.tup []) [(4,(.row 3 ((f0.mergeSort KL.leB).length) ((f0.mergeSort KL.leB).map intP)))],.k 4 ⟨(rng [(0,7),(10,5),(16,2),(20,2),(23,7),(32,2),(35,1),(43,129),(175,9),(203,13)]),[0,1,2,4],[],[]⟩ (.exit 2) (ltS_S1 c s g mx tt f0 i'2),.c (.tup [(.p (intP (rankM (withC c [f0]) s.toNat))),(.p (blP true))]) [],bF,bF,bF,bF,bF,bF,bF,bF,bF,bF,.k 4 ⟨(rng [(0,7),(10,5),(16,3),(20,2),(23,193),(217,77)]),[0,1,2],[],[]⟩ (.exit 4) (ltS_S2 c s g i'3 my'4 ty'5),.c (.p (blP true)) []]) (l:=[FC Tryz.prog 19 [] [] 3 (.p (blP true)) [],_,_,_,_,_,_,_,_,false=false,false=false,false=false,FC Tryz.prog 81 [(.p (intsP f0)),(.ptr 0 0),(.ptr 2 0)] [(0,(.box 25 [(.p (intP c.sk)),(.p (intP c.ra)),(.p (intP c.be)),(.p (intsP c.pts)),(.p (rowsP c.done))])),(2,(.box 3 [(.p (intP s))]))] 4 (.tup [(.p (intP (rankM (withC c [f0]) s.toNat))),(.p (blP true))]) [],_,FC Tryz.prog 84 [(.own 4)] [(4,(.row 3 f0.length (f0.map intP)))] 5 (.tup []) [(4,(.row 3 ((f0.mergeSort KL.leB).length) ((f0.mergeSort KL.leB).map intP)))],FC Tryz.prog 21 [(.p (intsP f0))] [] 4 (.own 4) [(4,(.row 3 f0.length (f0.map intP)))],((0:Int) == (0:Int))=true,_,FC Tryz.prog 72 [(.p (cupP c)),(.p (intP s)),(.own 3)] [(3,(.row 22 1 [(intsP ((worstM c s.toNat).2.2))]))] 4 (.tup [(.p (blP (decide (rankM (withC c l1) s.toNat=1)))),(.p (intP 0))]) [],_,false=false,false=false,false=false,false=false,FC Tryz.prog 81 [(.p (intsP ((worstM c s.toNat).2.2))),(.ptr 0 0),(.ptr 2 0)] [(0,(.box 25 [(.p (intP c.sk)),(.p (intP c.ra)),(.p (intP c.be)),(.p (intsP c.pts)),(.p (rowsP c.done))])),(2,(.box 3 [(.p (intP s))]))] 3 (.tup [(.p (intP (rankM (withC c [((worstM c s.toNat).2.2)]) s.toNat))),(.p (blP true))]) [],_,_,_,_,_,_,_,_,_,_,_,_,_,_,_,_,_,_,_,_]) (by kernel_rfl) (gc (FV.fc (awake_ok _) rfl) (gc hl15.code (gc (q_neF h14) (gc (q_neF h13) (gc (q_neF h13) (gc (q_neF h13) (gc (q_neF h13) (gc (q_neF h13) (gc (q_neF h13) (gc rfl (gc rfl (gc rfl (gc (fv (rnk_ok c s f0 h0 h12)) (gc hl11.code (gc (FMM.fc (ids:=[4]) (sortI_ok f0 h10) (by kernel_rfl)) (gc (FV.fc (clo_p0 (l:=f0) h9) rfl) (gc (by first | decide | simp) (gc zU22q0 (gc (FV.view (args':=[(.p (cupP c)),(.p (intP s)),(.p (.sl 1 [(intsP ((worstM c s.toNat).2.2))]))]) (by rw [show ((.sl 1 [(intsP ((worstM c s.toNat).2.2))]):PV)=rowsP l1 from sl_cast h6 h7];exact (sho_i c s l1 h0 h8)) (by kernel_rfl) (by kernel_rfl) (by kernel_rfl)) (gc (q_neF h5) (gc rfl (gc rfl (gc rfl (gc rfl (gc (fv (rnk_ok c s ((worstM c s.toNat).2.2) h0 h4)) (gc zU22q1 (gc h3 (gc zU22q2 (gc h3 (gc zU22q2 (gc zU22q2 (gc h3 (gc h3 (gc h3 (gc zU22q0 (gc zU22q0 (gc zU22q0 (gc zU22q0 (gc zU22q0 (gc zU22q0 (gc zU22q0 (gc zU22q0 (gc (fk 3 (blo_n c s h0 h2) rfl) (gc (fk 3 (ful_s c s f0 h0 h1) rfl) (gc (fk 3 (wor_i c s h0) rfl) gn)))))))))))))))))))))))))))))))))))))))))))))
theorem ltS_L1_p1{c:Cup}{s:Int}{g:List Int}{mx tt:Int}{f0:List Int}{i:Nat}{x200:Int}{i':Nat}(h0:(i:Int)<(((f0.mergeSort KL.leB).length:Nat):Int))(h1:(f0.mergeSort KL.leB)[i]? = some x200)(h2:inR (((i+1):Nat):Int))(h3:x200=(((i+1):Nat):Int))(ei':i'=(i+1)):CodeOK Tryz.prog 0 zU22c5 (ltS_S1 c s g mx tt f0 i) .normal (ltS_S1 c s g mx tt f0 i'):=by
  subst ei'
  exact CodeOK.fin (g:=⟨(rng [(0,7),(10,5),(16,2),(20,2),(23,7),(32,2),(35,1),(43,129),(175,9),(203,13)]),[0,1,2,3],[],[]⟩) (o:=[bT,.x (intP x200),bF]) (l:=[_,_,_,_,_,_]) (by kernel_rfl) (gc h2 (gc (q_neF h3) (gc h2 (gc (atm intP h1) (gc (ix_own (i:=(i:Int)) (Int.natCast_nonneg _) h1) (gc (q_lt h0) gn))))))
theorem ltS_L1_p2{c:Cup}{s:Int}{g:List Int}{mx tt:Int}{f0:List Int}{i:Nat}(h0:(((f0.mergeSort KL.leB).length:Nat):Int)≤(i:Int)):CodeOK Tryz.prog 0 zU22c5 (ltS_S1 c s g mx tt f0 i) (.exit 2) (ltS_S1 c s g mx tt f0 i):=by
  exact CodeOK.fin (g:=⟨(rng [(0,7),(10,5),(16,2),(20,2),(23,7),(32,2),(35,1),(43,129),(175,9),(203,13)]),[0,1,2,3],[],[]⟩) (o:=[bF]) (l:=[_]) (by kernel_rfl) (gc (q_ltF h0) gn)
def ltS_S3(c:Cup)(s:Int)(g:List Int)(i:Nat)(my:Int)(ty:Int)(j:Nat)(on:Nat)(oc:List PV):St:=⟨fr 295 [(7,(.ptr 0 0)),(8,(.ptr 1 0)),(9,(.ptr 2 0)),(15,(.p (intP ((worstM c s.toNat).1)))),(19,(.p (intP 0))),(22,(.fn 81 [] [(.ptr 0 0),(.ptr 2 0)])),(34,(.own 4)),(216,(.p (intP (i:Int)))),(217,(.p (blP (decide ((i:Int)<(6:Int)))))),(218,(.ptr 1 0)),(219,(.ptr 0 0)),(220,(.p (intP c.sk))),(221,(.own 3)),(222,(.p (intP ((((shufM c.sk g my ty).1).length:Nat):Int)))),(223,(.p (intP (j:Int))))],[some (.box 25 [(.p (intP c.sk)),(.p (intP c.ra)),(.p (intP c.be)),(.p (intsP c.pts)),(.p (rowsP c.done))]),some (deckO g ((shufM c.sk g my ty).2.1) ((shufM c.sk g my ty).2.2)),some (.box 3 [(.p (intP s))]),some (.row 3 (((shufM c.sk g my ty).1).length) (((shufM c.sk g my ty).1).map intP)),some (.row 3 on oc)]⟩
theorem ltS_L2_p3{c:Cup}{s:Int}{g:List Int}{i:Nat}{my ty:Int}{j'300:Nat}{o'301 r302:List Int}{m303 t304 r305 m306 t307:Int}{i':Nat}(h0:(i:Int)<(6:Int))(h1:0≤my∧my≤1000000)(h2:0≤c.sk∧c.sk≤1000)(hl3:LoopOK Tryz.prog 0 zU22c0 (ltS_S3 c s g i my ty 0 0 []) (.exit 6) (ltS_S3 c s g i my ty j'300 o'301.length (o'301.map intP)))(h4:LastK c s)(h5:RaceN c o'301)(h6:0≤((shufM c.sk g my ty).2.1)∧((shufM c.sk g my ty).2.1)≤1000000)(h7:0≤c.sk∧c.sk≤15)(h8:racedN c.sk g ((shufM c.sk g my ty).2.1) ((shufM c.sk g my ty).2.2)=(r302,m303,t304))(h9:RaceN c r302)(h10:0≤m303∧m303≤1000000000)(h11:(-1000000≤(2:Int)∧(2:Int)≤1000000) ∧ -1000000≤c.sk∧c.sk≤1000000)(h12:btwM (2:Int) c.sk g m303 t304=(r305,m306,t307))(h13:2≤r305∧r305≤c.sk)(h14:(rankM (withC c [o'301]) s.toNat)≤((worstM c s.toNat).1))(h15:(rankM (withC c [r302]) s.toNat)≤((worstM c s.toNat).1))(h16:(rankM (withC c [o'301]) s.toNat)=(1:Int))(h17:(blkM c s.toNat r305)=false)(h18:inR (((i+1):Nat):Int))(ei':i'=(i+1)):CodeOK Tryz.prog 0 zU22c1 (ltS_S2 c s g i my ty) .normal (ltS_S2 c s g i' m306 t307):=by
  subst ei'
  exact CodeOK.fin (g:=⟨(rng [(0,7),(10,5),(16,3),(20,2),(23,193),(217,77)]),[0,1,2],[],[]⟩) (o:=[bT,.c (.own 3) [(1,(deckO g ((shufM c.sk g my ty).2.1) ((shufM c.sk g my ty).2.2))),(3,(.row 3 (((shufM c.sk g my ty).1).length) (((shufM c.sk g my ty).1).map intP)))],.k 1 ⟨(rng [(0,6),(10,5),(16,3),(20,2),(23,11),(35,2),(43,173),(224,9)]),[0,1,2,3,4],[],[(34,3)]⟩ (.exit 6) (ltS_S3 c s g i my ty j'300 o'301.length (o'301.map intP)),.c (.tup [(.p (intP (rankM (withC c [o'301]) s.toNat))),(.p (blP true))]) [],.c (.own 5) [(1,(deckO g m303 t304)),(5,(.row 3 r302.length (r302.map intP)))],.c (.tup [(.p (intP (rankM (withC c [r302]) s.toNat))),(.p (blP true))]) [],.c (.p (intP r305)) [(1,(deckO g m306 t307))],.c (.tup [(.p (blP (blkM c s.toNat r305))),(.p (intP 0))]) [],bF,bF,bF,bF,bF,bF,bF,bF,bF,bF,bF,bF,bF,bF,bT,bT,bF,bT,bF,bF,bF,bF,bF,bF,bF,bF,bF,bF,bF]) (l:=[_,_,_,_,_,_,_,_,_,_,_,_,_,_,_,_,_,_,_,_,_,_,_,false=false,false=false,false=false,false=false,false=false,false=false,false=false,_,FC Tryz.prog 29 [(.ptr 1 0),(.p (intP 2)),(.p (intP c.sk))] [(1,(deckO g m303 t304))] 6 (.p (intP r305)) [(1,(deckO g m306 t307))],FC Tryz.prog 81 [(.own 5),(.ptr 0 0),(.ptr 2 0)] [(5,(.row 3 r302.length (r302.map intP))),(0,(.box 25 [(.p (intP c.sk)),(.p (intP c.ra)),(.p (intP c.be)),(.p (intsP c.pts)),(.p (rowsP c.done))])),(2,(.box 3 [(.p (intP s))]))] 6 (.tup [(.p (intP (rankM (withC c [r302]) s.toNat))),(.p (blP true))]) [],FC Tryz.prog 67 [(.ptr 1 0),(.p (intP c.sk)),(.kb false)] [(1,(deckO g ((shufM c.sk g my ty).2.1) ((shufM c.sk g my ty).2.2)))] 5 (.own 5) [(1,(deckO g m303 t304)),(5,(.row 3 r302.length (r302.map intP)))],FC Tryz.prog 81 [(.own 4),(.ptr 0 0),(.ptr 2 0)] [(4,(.row 3 o'301.length (o'301.map intP))),(0,(.box 25 [(.p (intP c.sk)),(.p (intP c.ra)),(.p (intP c.be)),(.p (intsP c.pts)),(.p (rowsP c.done))])),(2,(.box 3 [(.p (intP s))]))] 5 (.tup [(.p (intP (rankM (withC c [o'301]) s.toNat))),(.p (blP true))]) [],_,FC Tryz.prog 36 [(.ptr 1 0),(.p (intP c.sk))] [(1,(deckO g my ty))] 3 (.own 3) [(1,(deckO g ((shufM c.sk g my ty).2.1) ((shufM c.sk g my ty).2.2))),(3,(.row 3 (((shufM c.sk g my ty).1).length) (((shufM c.sk g my ty).1).map intP)))],_]) (by kernel_rfl) (gc h18 (gc zU22q0 (gc h17 (gc zU22q0 (gc h17 (gc h17 (gc zU22q0 (gc zU22q0 (gc zU22q0 (gc zU22q0 (gc zU22q0 (gc (q_ltF h15) (gc (q_eq h16) (gc (q_ltF h15) (gc (q_eq h16) (gc (q_eq h16) (gc (q_ltF h15) (gc (q_ltF h15) (gc (q_ltF h15) (gc (q_ltF h14) (gc (q_ltF h14) (gc (q_ltF h14) (gc (q_ltF h14) (gc rfl (gc rfl (gc rfl (gc rfl (gc rfl (gc rfl (gc rfl (gc (fk 10 (bls_i c s r305 h4 h13) rfl) (gc (FMM.fc (ids:=[1]) (btw_eq (2:Int) c.sk g m303 t304 h10 h11 h12) (by kernel_rfl)) (gc (fv (rnk_ok c s r302 h4 h9)) (gc (FMM.fc (ids:=[1]) (raced2_eq c.sk g ((shufM c.sk g my ty).2.1) ((shufM c.sk g my ty).2.2) h6 h7 h8) (by kernel_rfl)) (gc (fv (rnk_ok c s o'301 h4 h5)) (gc hl3.code (gc (FMM.fc (ids:=[1]) (shuf_ok c.sk g my ty h1 h2) (by kernel_rfl)) (gc (q_lt h0) gn))))))))))))))))))))))))))))))))))))))
theorem ltS_L2_p5{c:Cup}{s:Int}{g:List Int}{i:Nat}{my ty:Int}{j'300:Nat}{o'301 r302:List Int}{m303 t304 r305 m306 t307:Int}{i':Nat}(h0:(i:Int)<(6:Int))(h1:0≤my∧my≤1000000)(h2:0≤c.sk∧c.sk≤1000)(hl3:LoopOK Tryz.prog 0 zU22c0 (ltS_S3 c s g i my ty 0 0 []) (.exit 6) (ltS_S3 c s g i my ty j'300 o'301.length (o'301.map intP)))(h4:LastK c s)(h5:RaceN c o'301)(h6:0≤((shufM c.sk g my ty).2.1)∧((shufM c.sk g my ty).2.1)≤1000000)(h7:0≤c.sk∧c.sk≤15)(h8:racedN c.sk g ((shufM c.sk g my ty).2.1) ((shufM c.sk g my ty).2.2)=(r302,m303,t304))(h9:RaceN c r302)(h10:0≤m303∧m303≤1000000000)(h11:(-1000000≤(2:Int)∧(2:Int)≤1000000) ∧ -1000000≤c.sk∧c.sk≤1000000)(h12:btwM (2:Int) c.sk g m303 t304=(r305,m306,t307))(h13:2≤r305∧r305≤c.sk)(h14:(rankM (withC c [o'301]) s.toNat)≤((worstM c s.toNat).1))(h15:(rankM (withC c [r302]) s.toNat)≤((worstM c s.toNat).1))(h16:(rankM (withC c [o'301]) s.toNat)≠(1:Int))(h17:(blkM c s.toNat r305)=false)(h18:inR (((i+1):Nat):Int))(ei':i'=(i+1)):CodeOK Tryz.prog 0 zU22c1 (ltS_S2 c s g i my ty) .normal (ltS_S2 c s g i' m306 t307):=by
  subst ei'
  exact CodeOK.fin (g:=⟨(rng [(0,7),(10,5),(16,3),(20,2),(23,193),(217,77)]),[0,1,2],[],[]⟩) (o:=[bT,.c (.own 3) [(1,(deckO g ((shufM c.sk g my ty).2.1) ((shufM c.sk g my ty).2.2))),(3,(.row 3 (((shufM c.sk g my ty).1).length) (((shufM c.sk g my ty).1).map intP)))],.k 1 ⟨(rng [(0,6),(10,5),(16,3),(20,2),(23,11),(35,2),(43,173),(224,9)]),[0,1,2,3,4],[],[(34,3)]⟩ (.exit 6) (ltS_S3 c s g i my ty j'300 o'301.length (o'301.map intP)),.c (.tup [(.p (intP (rankM (withC c [o'301]) s.toNat))),(.p (blP true))]) [],.c (.own 5) [(1,(deckO g m303 t304)),(5,(.row 3 r302.length (r302.map intP)))],.c (.tup [(.p (intP (rankM (withC c [r302]) s.toNat))),(.p (blP true))]) [],.c (.p (intP r305)) [(1,(deckO g m306 t307))],.c (.tup [(.p (blP (blkM c s.toNat r305))),(.p (intP 0))]) [],bF,bF,bF,bF,bF,bF,bF,bF,bF,bF,bF,bF,bF,bF,bF,bF,bF,bF,bF,bF,bF,bF,bF,bF,bF,bF]) (l:=[_,_,_,_,_,_,_,_,_,_,_,_,_,_,_,_,_,_,_,_,false=false,false=false,false=false,false=false,false=false,false=false,false=false,_,FC Tryz.prog 29 [(.ptr 1 0),(.p (intP 2)),(.p (intP c.sk))] [(1,(deckO g m303 t304))] 6 (.p (intP r305)) [(1,(deckO g m306 t307))],FC Tryz.prog 81 [(.own 5),(.ptr 0 0),(.ptr 2 0)] [(5,(.row 3 r302.length (r302.map intP))),(0,(.box 25 [(.p (intP c.sk)),(.p (intP c.ra)),(.p (intP c.be)),(.p (intsP c.pts)),(.p (rowsP c.done))])),(2,(.box 3 [(.p (intP s))]))] 6 (.tup [(.p (intP (rankM (withC c [r302]) s.toNat))),(.p (blP true))]) [],FC Tryz.prog 67 [(.ptr 1 0),(.p (intP c.sk)),(.kb false)] [(1,(deckO g ((shufM c.sk g my ty).2.1) ((shufM c.sk g my ty).2.2)))] 5 (.own 5) [(1,(deckO g m303 t304)),(5,(.row 3 r302.length (r302.map intP)))],FC Tryz.prog 81 [(.own 4),(.ptr 0 0),(.ptr 2 0)] [(4,(.row 3 o'301.length (o'301.map intP))),(0,(.box 25 [(.p (intP c.sk)),(.p (intP c.ra)),(.p (intP c.be)),(.p (intsP c.pts)),(.p (rowsP c.done))])),(2,(.box 3 [(.p (intP s))]))] 5 (.tup [(.p (intP (rankM (withC c [o'301]) s.toNat))),(.p (blP true))]) [],_,FC Tryz.prog 36 [(.ptr 1 0),(.p (intP c.sk))] [(1,(deckO g my ty))] 3 (.own 3) [(1,(deckO g ((shufM c.sk g my ty).2.1) ((shufM c.sk g my ty).2.2))),(3,(.row 3 (((shufM c.sk g my ty).1).length) (((shufM c.sk g my ty).1).map intP)))],_]) (by kernel_rfl) (gc h18 (gc zU22q0 (gc h17 (gc zU22q0 (gc h17 (gc h17 (gc zU22q0 (gc zU22q0 (gc (q_ltF h15) (gc (q_ne h16) (gc (q_ltF h15) (gc (q_ne h16) (gc (q_ne h16) (gc (q_ltF h15) (gc (q_ltF h15) (gc (q_ltF h15) (gc (q_ltF h14) (gc (q_ltF h14) (gc (q_ltF h14) (gc (q_ltF h14) (gc rfl (gc rfl (gc rfl (gc rfl (gc rfl (gc rfl (gc rfl (gc (fk 10 (bls_i c s r305 h4 h13) rfl) (gc (FMM.fc (ids:=[1]) (btw_eq (2:Int) c.sk g m303 t304 h10 h11 h12) (by kernel_rfl)) (gc (fv (rnk_ok c s r302 h4 h9)) (gc (FMM.fc (ids:=[1]) (raced2_eq c.sk g ((shufM c.sk g my ty).2.1) ((shufM c.sk g my ty).2.2) h6 h7 h8) (by kernel_rfl)) (gc (fv (rnk_ok c s o'301 h4 h5)) (gc hl3.code (gc (FMM.fc (ids:=[1]) (shuf_ok c.sk g my ty h1 h2) (by kernel_rfl)) (gc (q_lt h0) gn)))))))))))))))))))))))))))))))))))
theorem ltS_L2_p6{c:Cup}{s:Int}{g:List Int}{i:Nat}{my ty:Int}(h0:(6:Int)≤(i:Int)):CodeOK Tryz.prog 0 zU22c1 (ltS_S2 c s g i my ty) (.exit 4) (ltS_S2 c s g i my ty):=by
  exact CodeOK.fin (g:=⟨(rng [(0,7),(10,5),(16,3),(20,2),(23,193),(217,77)]),[0,1,2],[],[]⟩) (o:=[bF]) (l:=[_]) (by kernel_rfl) (gc (q_ltF h0) gn)
theorem ltS_L3_p0{c:Cup}{s:Int}{g:List Int}{i:Nat}{my ty:Int}{j:Nat}{o:List Int}{x400:Int}{j':Nat}{o':List Int}(h0:(j:Int)<((((shufM c.sk g my ty).1).length:Nat):Int))(h1:((shufM c.sk g my ty).1)[j]? = some x400)(h2:inR (x400+(1:Int)))(h3:[(intP (x400+(1:Int)))].length=1*1∧o.length+1≤1000000)(h4:inR (((j+1):Nat):Int))(ej':j'=(j+1))(eo'n:o'.length=(o.length+1))(eo'c:o'.map intP=((o.map intP)++[(intP (x400+(1:Int)))])):CodeOK Tryz.prog 0 zU22c0 (ltS_S3 c s g i my ty j o.length (o.map intP)) .normal (ltS_S3 c s g i my ty j' o'.length (o'.map intP)):=by
  subst ej'
  have raw:CodeOK Tryz.prog 0 zU22c0 (ltS_S3 c s g i my ty j o.length (o.map intP)) .normal (ltS_S3 c s g i my ty (j+1) (o.length+1) ((o.map intP)++[(intP (x400+(1:Int)))])):=CodeOK.fin (g:=⟨(rng [(0,6),(10,5),(16,3),(20,2),(23,11),(35,2),(43,173),(224,9)]),[0,1,2,3,6],[],[]⟩) (o:=[bT,.x (intP x400)]) (l:=[_,_,_,_,_,_]) (by kernel_rfl) (gc h4 (gc h3 (gc h2 (gc (atm intP h1) (gc (ix_own (i:=(j:Int)) (Int.natCast_nonneg _) h1) (gc (q_lt h0) gn))))))
  exact raw.cast (by rw [eo'n,eo'c])
theorem ltS_L3_p1{c:Cup}{s:Int}{g:List Int}{i:Nat}{my ty:Int}{j:Nat}{o:List Int}(h0:((((shufM c.sk g my ty).1).length:Nat):Int)≤(j:Int)):CodeOK Tryz.prog 0 zU22c0 (ltS_S3 c s g i my ty j o.length (o.map intP)) (.exit 6) (ltS_S3 c s g i my ty j o.length (o.map intP)):=by
  exact CodeOK.fin (g:=⟨(rng [(0,6),(10,5),(16,3),(20,2),(23,11),(35,2),(43,173),(224,9)]),[0,1,2,3,4],[],[]⟩) (o:=[bF]) (l:=[_]) (by kernel_rfl) (gc (q_ltF h0) gn)
def ltN_S2(c:Cup)(s:Int)(g:List Int)(i:Nat)(my:Int)(ty:Int):St:=⟨fr 295 [(7,(.ptr 0 0)),(8,(.ptr 1 0)),(9,(.ptr 2 0)),(15,(.p (intP ((worstM c s.toNat).1)))),(19,(.p (intP 6))),(22,(.fn 81 [] [(.ptr 0 0),(.ptr 2 0)])),(216,(.p (intP (i:Int))))],[some (.box 25 [(.p (intP c.sk)),(.p (intP c.ra)),(.p (intP c.be)),(.p (intsP c.pts)),(.p (rowsP c.done))]),some (deckO g my ty),some (.box 3 [(.p (intP s))])]⟩
theorem ltN_p3{c:Cup}{s:Int}{g:List Int}{mx tt q0:Int}{l1:List (List Int)}{i'2:Nat}{my'3 ty'4:Int}(h0:LastK c s)(h1:fullM c s.toNat=none)(h2:blockM c s.toNat=some q0)(h3:(((6:Int) == (0:Int)) == ((0:Int) == (0:Int)))=false)(h4:RaceN c ((worstM c s.toNat).2.2))(h5:(rankM (withC c [((worstM c s.toNat).2.2)]) s.toNat)=((worstM c s.toNat).1))(h6:1=l1.length)(h7:[(intsP ((worstM c s.toNat).2.2))]=l1.map intsP)(h8:FurN c l1)(h9:2≤q0∧q0≤c.sk)(h10:(blkM c s.toNat q0)=true)(hl11:LoopOK Tryz.prog 0 zU22c1 (ltN_S2 c s g 0 mx tt) (.exit 4) (ltN_S2 c s g i'2 my'3 ty'4)):CodeOK Tryz.prog 0 zU22c3 ⟨fr 295 [(7,(.ptr 0 0)),(8,(.ptr 1 0)),(9,(.ptr 2 0))],[some (.box 25 [(.p (intP c.sk)),(.p (intP c.ra)),(.p (intP c.be)),(.p (intsP c.pts)),(.p (rowsP c.done))]),some (deckO g mx tt),some (.box 3 [(.p (intP s))])]⟩ .ret ⟨fr 295 [(6,(.p (blP true)))],[]⟩:=by
  exact CodeOK.fin (g:=⟨(rng [(0,6),(7,288)]),[],[],[]⟩) (o:=[.c (.tup [(.p (intP ((worstM c s.toNat).1))),(.p (intsP ((worstM c s.toNat).2.2))),(.p (intP 0))]) [],.c (.tup [(.p nilS),(.p (intP 6))]) [],.c (.tup [(.p (intP q0)),(.p (intP 0))]) [],bF,bF,bF,bT,bT,bF,bT,bF,bF,bF,bF,bF,bF,bF,bF,bF,bF,bF,bF,bF,bF,bF,.c (.tup [(.p (intP (rankM (withC c [((worstM c s.toNat).2.2)]) s.toNat))),(.p (blP true))]) [],bF,bF,bF,bF,bF,.c (.tup [(.p (blP (decide (rankM (withC c l1) s.toNat=1)))),(.p (intP 0))]) [],bF,bF,.c (.tup [(.p (blP (blkM c s.toNat q0))),(.p (intP 0))]) [],bF,bF,bF,bF,.k 4 ⟨(rng [(0,7),(10,5),(16,3),(20,2),(23,193),(217,77)]),[0,1,2],[],[]⟩ (.exit 4) (ltN_S2 c s g i'2 my'3 ty'4),.c (.p (blP true)) []]) (l:=[FC Tryz.prog 19 [] [] 3 (.p (blP true)) [],_,_,_,_,_,_,_,_,FC Tryz.prog 72 [(.p (cupP c)),(.p (intP s)),(.own 3)] [(3,(.row 22 1 [(intsP ((worstM c s.toNat).2.2))]))] 4 (.tup [(.p (blP (decide (rankM (withC c l1) s.toNat=1)))),(.p (intP 0))]) [],_,false=false,false=false,false=false,false=false,FC Tryz.prog 81 [(.p (intsP ((worstM c s.toNat).2.2))),(.ptr 0 0),(.ptr 2 0)] [(0,(.box 25 [(.p (intP c.sk)),(.p (intP c.ra)),(.p (intP c.be)),(.p (intsP c.pts)),(.p (rowsP c.done))])),(2,(.box 3 [(.p (intP s))]))] 3 (.tup [(.p (intP (rankM (withC c [((worstM c s.toNat).2.2)]) s.toNat))),(.p (blP true))]) [],_,_,_,_,_,_,_,_,_,_,_,_,_,_,_,_,_,_,_,_,_,_,_,_,_]) (by kernel_rfl) (gc (FV.fc (awake_ok _) rfl) (gc hl11.code (gc (q_notF h10) (gc zU22q0 (gc zU22q0 (gc zU22q0 (gc (fk 4 (bls_i c s q0 h0 h9) rfl) (gc zU22q4 (gc zU22q0 (gc (FV.view (args':=[(.p (cupP c)),(.p (intP s)),(.p (.sl 1 [(intsP ((worstM c s.toNat).2.2))]))]) (by rw [show ((.sl 1 [(intsP ((worstM c s.toNat).2.2))]):PV)=rowsP l1 from sl_cast h6 h7];exact (sho_i c s l1 h0 h8)) (by kernel_rfl) (by kernel_rfl) (by kernel_rfl)) (gc (q_neF h5) (gc rfl (gc rfl (gc rfl (gc rfl (gc (fv (rnk_ok c s ((worstM c s.toNat).2.2) h0 h4)) (gc h3 (gc zU22q0 (gc h3 (gc zU22q0 (gc zU22q0 (gc h3 (gc h3 (gc h3 (gc zU22q1 (gc zU22q1 (gc zU22q1 (gc zU22q1 (gc zU22q1 (gc zU22q1 (gc zU22q0 (gc zU22q2 (gc zU22q0 (gc zU22q2 (gc zU22q2 (gc zU22q0 (gc zU22q0 (gc zU22q0 (gc (fk 3 (blo_s c s q0 h0 h2) rfl) (gc (fk 3 (ful_n c s h0 h1) rfl) (gc (fk 3 (wor_i c s h0) rfl) gn)))))))))))))))))))))))))))))))))))))))))
def ltN_S3(c:Cup)(s:Int)(g:List Int)(i:Nat)(my:Int)(ty:Int)(j:Nat)(on:Nat)(oc:List PV):St:=⟨fr 295 [(7,(.ptr 0 0)),(8,(.ptr 1 0)),(9,(.ptr 2 0)),(15,(.p (intP ((worstM c s.toNat).1)))),(19,(.p (intP 6))),(22,(.fn 81 [] [(.ptr 0 0),(.ptr 2 0)])),(34,(.own 4)),(216,(.p (intP (i:Int)))),(217,(.p (blP (decide ((i:Int)<(6:Int)))))),(218,(.ptr 1 0)),(219,(.ptr 0 0)),(220,(.p (intP c.sk))),(221,(.own 3)),(222,(.p (intP ((((shufM c.sk g my ty).1).length:Nat):Int)))),(223,(.p (intP (j:Int))))],[some (.box 25 [(.p (intP c.sk)),(.p (intP c.ra)),(.p (intP c.be)),(.p (intsP c.pts)),(.p (rowsP c.done))]),some (deckO g ((shufM c.sk g my ty).2.1) ((shufM c.sk g my ty).2.2)),some (.box 3 [(.p (intP s))]),some (.row 3 (((shufM c.sk g my ty).1).length) (((shufM c.sk g my ty).1).map intP)),some (.row 3 on oc)]⟩
theorem ltN_L2_p3{c:Cup}{s:Int}{g:List Int}{i:Nat}{my ty:Int}{j'300:Nat}{o'301 r302:List Int}{m303 t304 r305 m306 t307:Int}{i':Nat}(h0:(i:Int)<(6:Int))(h1:0≤my∧my≤1000000)(h2:0≤c.sk∧c.sk≤1000)(hl3:LoopOK Tryz.prog 0 zU22c0 (ltN_S3 c s g i my ty 0 0 []) (.exit 6) (ltN_S3 c s g i my ty j'300 o'301.length (o'301.map intP)))(h4:LastK c s)(h5:RaceN c o'301)(h6:0≤((shufM c.sk g my ty).2.1)∧((shufM c.sk g my ty).2.1)≤1000000)(h7:0≤c.sk∧c.sk≤15)(h8:racedN c.sk g ((shufM c.sk g my ty).2.1) ((shufM c.sk g my ty).2.2)=(r302,m303,t304))(h9:RaceN c r302)(h10:0≤m303∧m303≤1000000000)(h11:(-1000000≤(2:Int)∧(2:Int)≤1000000) ∧ -1000000≤c.sk∧c.sk≤1000000)(h12:btwM (2:Int) c.sk g m303 t304=(r305,m306,t307))(h13:2≤r305∧r305≤c.sk)(h14:(rankM (withC c [o'301]) s.toNat)≤((worstM c s.toNat).1))(h15:(rankM (withC c [r302]) s.toNat)≤((worstM c s.toNat).1))(h16:(rankM (withC c [o'301]) s.toNat)≠(1:Int))(h17:(blkM c s.toNat r305)=true)(h18:inR (((i+1):Nat):Int))(ei':i'=(i+1)):CodeOK Tryz.prog 0 zU22c1 (ltN_S2 c s g i my ty) .normal (ltN_S2 c s g i' m306 t307):=by
  subst ei'
  exact CodeOK.fin (g:=⟨(rng [(0,7),(10,5),(16,3),(20,2),(23,193),(217,77)]),[0,1,2],[],[]⟩) (o:=[bT,.c (.own 3) [(1,(deckO g ((shufM c.sk g my ty).2.1) ((shufM c.sk g my ty).2.2))),(3,(.row 3 (((shufM c.sk g my ty).1).length) (((shufM c.sk g my ty).1).map intP)))],.k 1 ⟨(rng [(0,6),(10,5),(16,3),(20,2),(23,11),(35,2),(43,173),(224,9)]),[0,1,2,3,4],[],[(34,3)]⟩ (.exit 6) (ltN_S3 c s g i my ty j'300 o'301.length (o'301.map intP)),.c (.tup [(.p (intP (rankM (withC c [o'301]) s.toNat))),(.p (blP true))]) [],.c (.own 5) [(1,(deckO g m303 t304)),(5,(.row 3 r302.length (r302.map intP)))],.c (.tup [(.p (intP (rankM (withC c [r302]) s.toNat))),(.p (blP true))]) [],.c (.p (intP r305)) [(1,(deckO g m306 t307))],.c (.tup [(.p (blP (blkM c s.toNat r305))),(.p (intP 0))]) [],bF,bF,bF,bF,bF,bF,bF,bF,bF,bF,bF,bF,bF,bF,bF,bF,bF,bF,bF,bF,bF,bT,bT,bF,bT,bF,bF]) (l:=[_,_,_,_,_,_,_,_,_,_,_,_,_,_,_,_,_,_,_,_,_,false=false,false=false,false=false,false=false,false=false,false=false,false=false,_,FC Tryz.prog 29 [(.ptr 1 0),(.p (intP 2)),(.p (intP c.sk))] [(1,(deckO g m303 t304))] 6 (.p (intP r305)) [(1,(deckO g m306 t307))],FC Tryz.prog 81 [(.own 5),(.ptr 0 0),(.ptr 2 0)] [(5,(.row 3 r302.length (r302.map intP))),(0,(.box 25 [(.p (intP c.sk)),(.p (intP c.ra)),(.p (intP c.be)),(.p (intsP c.pts)),(.p (rowsP c.done))])),(2,(.box 3 [(.p (intP s))]))] 6 (.tup [(.p (intP (rankM (withC c [r302]) s.toNat))),(.p (blP true))]) [],FC Tryz.prog 67 [(.ptr 1 0),(.p (intP c.sk)),(.kb false)] [(1,(deckO g ((shufM c.sk g my ty).2.1) ((shufM c.sk g my ty).2.2)))] 5 (.own 5) [(1,(deckO g m303 t304)),(5,(.row 3 r302.length (r302.map intP)))],FC Tryz.prog 81 [(.own 4),(.ptr 0 0),(.ptr 2 0)] [(4,(.row 3 o'301.length (o'301.map intP))),(0,(.box 25 [(.p (intP c.sk)),(.p (intP c.ra)),(.p (intP c.be)),(.p (intsP c.pts)),(.p (rowsP c.done))])),(2,(.box 3 [(.p (intP s))]))] 5 (.tup [(.p (intP (rankM (withC c [o'301]) s.toNat))),(.p (blP true))]) [],_,FC Tryz.prog 36 [(.ptr 1 0),(.p (intP c.sk))] [(1,(deckO g my ty))] 3 (.own 3) [(1,(deckO g ((shufM c.sk g my ty).2.1) ((shufM c.sk g my ty).2.2))),(3,(.row 3 (((shufM c.sk g my ty).1).length) (((shufM c.sk g my ty).1).map intP)))],_]) (by kernel_rfl) (gc h18 (gc zU22q4 (gc zU22q0 (gc h17 (gc zU22q0 (gc h17 (gc h17 (gc zU22q0 (gc zU22q0 (gc (q_ltF h15) (gc (q_ne h16) (gc (q_ltF h15) (gc (q_ne h16) (gc (q_ne h16) (gc (q_ltF h15) (gc (q_ltF h15) (gc (q_ltF h15) (gc (q_ltF h14) (gc (q_ltF h14) (gc (q_ltF h14) (gc (q_ltF h14) (gc rfl (gc rfl (gc rfl (gc rfl (gc rfl (gc rfl (gc rfl (gc (fk 10 (bls_i c s r305 h4 h13) rfl) (gc (FMM.fc (ids:=[1]) (btw_eq (2:Int) c.sk g m303 t304 h10 h11 h12) (by kernel_rfl)) (gc (fv (rnk_ok c s r302 h4 h9)) (gc (FMM.fc (ids:=[1]) (raced2_eq c.sk g ((shufM c.sk g my ty).2.1) ((shufM c.sk g my ty).2.2) h6 h7 h8) (by kernel_rfl)) (gc (fv (rnk_ok c s o'301 h4 h5)) (gc hl3.code (gc (FMM.fc (ids:=[1]) (shuf_ok c.sk g my ty h1 h2) (by kernel_rfl)) (gc (q_lt h0) gn))))))))))))))))))))))))))))))))))))
theorem ltN_L2_p4{c:Cup}{s:Int}{g:List Int}{i:Nat}{my ty:Int}{j'300:Nat}{o'301 r302:List Int}{m303 t304 r305 m306 t307:Int}{i':Nat}(h0:(i:Int)<(6:Int))(h1:0≤my∧my≤1000000)(h2:0≤c.sk∧c.sk≤1000)(hl3:LoopOK Tryz.prog 0 zU22c0 (ltN_S3 c s g i my ty 0 0 []) (.exit 6) (ltN_S3 c s g i my ty j'300 o'301.length (o'301.map intP)))(h4:LastK c s)(h5:RaceN c o'301)(h6:0≤((shufM c.sk g my ty).2.1)∧((shufM c.sk g my ty).2.1)≤1000000)(h7:0≤c.sk∧c.sk≤15)(h8:racedN c.sk g ((shufM c.sk g my ty).2.1) ((shufM c.sk g my ty).2.2)=(r302,m303,t304))(h9:RaceN c r302)(h10:0≤m303∧m303≤1000000000)(h11:(-1000000≤(2:Int)∧(2:Int)≤1000000) ∧ -1000000≤c.sk∧c.sk≤1000000)(h12:btwM (2:Int) c.sk g m303 t304=(r305,m306,t307))(h13:2≤r305∧r305≤c.sk)(h14:(rankM (withC c [o'301]) s.toNat)≤((worstM c s.toNat).1))(h15:(rankM (withC c [r302]) s.toNat)≤((worstM c s.toNat).1))(h16:(rankM (withC c [o'301]) s.toNat)≠(1:Int))(h17:(blkM c s.toNat r305)=false)(h18:inR (((i+1):Nat):Int))(ei':i'=(i+1)):CodeOK Tryz.prog 0 zU22c1 (ltN_S2 c s g i my ty) .normal (ltN_S2 c s g i' m306 t307):=by
  subst ei'
  exact CodeOK.fin (g:=⟨(rng [(0,7),(10,5),(16,3),(20,2),(23,193),(217,77)]),[0,1,2],[],[]⟩) (o:=[bT,.c (.own 3) [(1,(deckO g ((shufM c.sk g my ty).2.1) ((shufM c.sk g my ty).2.2))),(3,(.row 3 (((shufM c.sk g my ty).1).length) (((shufM c.sk g my ty).1).map intP)))],.k 1 ⟨(rng [(0,6),(10,5),(16,3),(20,2),(23,11),(35,2),(43,173),(224,9)]),[0,1,2,3,4],[],[(34,3)]⟩ (.exit 6) (ltN_S3 c s g i my ty j'300 o'301.length (o'301.map intP)),.c (.tup [(.p (intP (rankM (withC c [o'301]) s.toNat))),(.p (blP true))]) [],.c (.own 5) [(1,(deckO g m303 t304)),(5,(.row 3 r302.length (r302.map intP)))],.c (.tup [(.p (intP (rankM (withC c [r302]) s.toNat))),(.p (blP true))]) [],.c (.p (intP r305)) [(1,(deckO g m306 t307))],.c (.tup [(.p (blP (blkM c s.toNat r305))),(.p (intP 0))]) [],bF,bF,bF,bF,bF,bF,bF,bF,bF,bF,bF,bF,bF,bF,bF,bF,bF,bF,bF,bF,bF,bF,bF,bF,bF,bF]) (l:=[_,_,_,_,_,_,_,_,_,_,_,_,_,_,_,_,_,_,_,_,false=false,false=false,false=false,false=false,false=false,false=false,false=false,_,FC Tryz.prog 29 [(.ptr 1 0),(.p (intP 2)),(.p (intP c.sk))] [(1,(deckO g m303 t304))] 6 (.p (intP r305)) [(1,(deckO g m306 t307))],FC Tryz.prog 81 [(.own 5),(.ptr 0 0),(.ptr 2 0)] [(5,(.row 3 r302.length (r302.map intP))),(0,(.box 25 [(.p (intP c.sk)),(.p (intP c.ra)),(.p (intP c.be)),(.p (intsP c.pts)),(.p (rowsP c.done))])),(2,(.box 3 [(.p (intP s))]))] 6 (.tup [(.p (intP (rankM (withC c [r302]) s.toNat))),(.p (blP true))]) [],FC Tryz.prog 67 [(.ptr 1 0),(.p (intP c.sk)),(.kb false)] [(1,(deckO g ((shufM c.sk g my ty).2.1) ((shufM c.sk g my ty).2.2)))] 5 (.own 5) [(1,(deckO g m303 t304)),(5,(.row 3 r302.length (r302.map intP)))],FC Tryz.prog 81 [(.own 4),(.ptr 0 0),(.ptr 2 0)] [(4,(.row 3 o'301.length (o'301.map intP))),(0,(.box 25 [(.p (intP c.sk)),(.p (intP c.ra)),(.p (intP c.be)),(.p (intsP c.pts)),(.p (rowsP c.done))])),(2,(.box 3 [(.p (intP s))]))] 5 (.tup [(.p (intP (rankM (withC c [o'301]) s.toNat))),(.p (blP true))]) [],_,FC Tryz.prog 36 [(.ptr 1 0),(.p (intP c.sk))] [(1,(deckO g my ty))] 3 (.own 3) [(1,(deckO g ((shufM c.sk g my ty).2.1) ((shufM c.sk g my ty).2.2))),(3,(.row 3 (((shufM c.sk g my ty).1).length) (((shufM c.sk g my ty).1).map intP)))],_]) (by kernel_rfl) (gc h18 (gc zU22q0 (gc h17 (gc zU22q0 (gc h17 (gc h17 (gc zU22q0 (gc zU22q0 (gc (q_ltF h15) (gc (q_ne h16) (gc (q_ltF h15) (gc (q_ne h16) (gc (q_ne h16) (gc (q_ltF h15) (gc (q_ltF h15) (gc (q_ltF h15) (gc (q_ltF h14) (gc (q_ltF h14) (gc (q_ltF h14) (gc (q_ltF h14) (gc rfl (gc rfl (gc rfl (gc rfl (gc rfl (gc rfl (gc rfl (gc (fk 10 (bls_i c s r305 h4 h13) rfl) (gc (FMM.fc (ids:=[1]) (btw_eq (2:Int) c.sk g m303 t304 h10 h11 h12) (by kernel_rfl)) (gc (fv (rnk_ok c s r302 h4 h9)) (gc (FMM.fc (ids:=[1]) (raced2_eq c.sk g ((shufM c.sk g my ty).2.1) ((shufM c.sk g my ty).2.2) h6 h7 h8) (by kernel_rfl)) (gc (fv (rnk_ok c s o'301 h4 h5)) (gc hl3.code (gc (FMM.fc (ids:=[1]) (shuf_ok c.sk g my ty h1 h2) (by kernel_rfl)) (gc (q_lt h0) gn)))))))))))))))))))))))))))))))))))
theorem ltN_L2_p5{c:Cup}{s:Int}{g:List Int}{i:Nat}{my ty:Int}(h0:(6:Int)≤(i:Int)):CodeOK Tryz.prog 0 zU22c1 (ltN_S2 c s g i my ty) (.exit 4) (ltN_S2 c s g i my ty):=by
  exact CodeOK.fin (g:=⟨(rng [(0,7),(10,5),(16,3),(20,2),(23,193),(217,77)]),[0,1,2],[],[]⟩) (o:=[bF]) (l:=[_]) (by kernel_rfl) (gc (q_ltF h0) gn)
theorem ltN_L3_p0{c:Cup}{s:Int}{g:List Int}{i:Nat}{my ty:Int}{j:Nat}{o:List Int}{x400:Int}{j':Nat}{o':List Int}(h0:(j:Int)<((((shufM c.sk g my ty).1).length:Nat):Int))(h1:((shufM c.sk g my ty).1)[j]? = some x400)(h2:inR (x400+(1:Int)))(h3:[(intP (x400+(1:Int)))].length=1*1∧o.length+1≤1000000)(h4:inR (((j+1):Nat):Int))(ej':j'=(j+1))(eo'n:o'.length=(o.length+1))(eo'c:o'.map intP=((o.map intP)++[(intP (x400+(1:Int)))])):CodeOK Tryz.prog 0 zU22c0 (ltN_S3 c s g i my ty j o.length (o.map intP)) .normal (ltN_S3 c s g i my ty j' o'.length (o'.map intP)):=by
  subst ej'
  have raw:CodeOK Tryz.prog 0 zU22c0 (ltN_S3 c s g i my ty j o.length (o.map intP)) .normal (ltN_S3 c s g i my ty (j+1) (o.length+1) ((o.map intP)++[(intP (x400+(1:Int)))])):=CodeOK.fin (g:=⟨(rng [(0,6),(10,5),(16,3),(20,2),(23,11),(35,2),(43,173),(224,9)]),[0,1,2,3,6],[],[]⟩) (o:=[bT,.x (intP x400)]) (l:=[_,_,_,_,_,_]) (by kernel_rfl) (gc h4 (gc h3 (gc h2 (gc (atm intP h1) (gc (ix_own (i:=(j:Int)) (Int.natCast_nonneg _) h1) (gc (q_lt h0) gn))))))
  exact raw.cast (by rw [eo'n,eo'c])
theorem ltN_L3_p1{c:Cup}{s:Int}{g:List Int}{i:Nat}{my ty:Int}{j:Nat}{o:List Int}(h0:((((shufM c.sk g my ty).1).length:Nat):Int)≤(j:Int)):CodeOK Tryz.prog 0 zU22c0 (ltN_S3 c s g i my ty j o.length (o.map intP)) (.exit 6) (ltN_S3 c s g i my ty j o.length (o.map intP)):=by
  exact CodeOK.fin (g:=⟨(rng [(0,6),(10,5),(16,3),(20,2),(23,11),(35,2),(43,173),(224,9)]),[0,1,2,3,4],[],[]⟩) (o:=[bF]) (l:=[_]) (by kernel_rfl) (gc (q_ltF h0) gn)
theorem lt_srt{c:Cup}{s:Int}{g:List Int}{mx tt:Int}{f:List Int}{n:Nat}(h:Full n f)(hn:n≤100):LoopOK Tryz.prog 0 zU22c5 (ltS_S1 c s g mx tt f 0) (.exit 2) (ltS_S1 c s g mx tt f n):=by
  have hl:=full_srt_len h
  exact LoopOK.count (P:=Tryz.prog) (k:=0) (b:=zU22c5) (e := .exit 2) (R:=ltS_S1 c s g mx tt f n) n (fun i=>ltS_S1 c s g mx tt f i)
    (fun i hi=>ltS_L1_p1 (by rw [hl];omega) (full_at h hi) (inR_nat (by omega)) (by omega) rfl) (ltS_L1_p2 (by rw [hl];omega)) (by simp)
theorem ltS_shuf{c:Cup}{s:Int}{g:List Int}{mx tt:Int}{i:Nat}(hk:c.sk.toNat≤100):LoopOK Tryz.prog 0 zU22c0 (ltS_S3 c s g i mx tt 0 0 []) (.exit 6) (ltS_S3 c s g i mx tt c.sk.toNat ((shufM c.sk g mx tt).1.map fun x=>x+1).length (((shufM c.sk g mx tt).1.map fun x=>x+1).map intP)):=by
  obtain ⟨hp,_,_⟩:=shufM_perm c.sk g mx tt
  have hl:(shufM c.sk g mx tt).1.length=c.sk.toNat:=by rw [hp.length_eq];simp [upL]
  have hb:∀ x∈(shufM c.sk g mx tt).1,0≤x∧x.toNat<c.sk.toNat:=fun x hx=>upL_mem (hp.mem_iff.1 hx)
  exact LoopOK.count (P:=Tryz.prog) (k:=0) (b:=zU22c0) (e := .exit 6) (R:=ltS_S3 c s g i mx tt c.sk.toNat ((shufM c.sk g mx tt).1.map fun x=>x+1).length (((shufM c.sk g mx tt).1.map fun x=>x+1).map intP)) c.sk.toNat
    (fun j=>ltS_S3 c s g i mx tt j (((shufM c.sk g mx tt).1.take j).map fun x=>x+1).length ((((shufM c.sk g mx tt).1.take j).map fun x=>x+1).map intP))
    (fun j hj=>by
      have hx:(shufM c.sk g mx tt).1[j]? = some ((shufM c.sk g mx tt).1[j]'(by omega)):=List.getElem?_eq_getElem (by omega)
      have h0:=hb _ (List.getElem_mem (show j<(shufM c.sk g mx tt).1.length by omega))
      have et:(shufM c.sk g mx tt).1.take (j+1)=(shufM c.sk g mx tt).1.take j++[(shufM c.sk g mx tt).1[j]'(by omega)]:=by rw [List.take_add_one,hx];rfl
      exact ltS_L3_p0 (o:=((shufM c.sk g mx tt).1.take j).map fun x=>x+1) (o':=((shufM c.sk g mx tt).1.take (j+1)).map fun x=>x+1) (by omega) hx (by unfold inR;omega) ⟨rfl,by simp;omega⟩ (inR_nat (by omega)) rfl (by simp;omega) (by rw [et,List.map_append,List.map_append];rfl))
    (by
      have e:(shufM c.sk g mx tt).1.take c.sk.toNat=(shufM c.sk g mx tt).1:=List.take_of_length_le (by omega)
      rw [e]
      exact ltS_L3_p1 (o:=(shufM c.sk g mx tt).1.map fun x=>x+1) (by omega)) (by simp)
theorem ltS_tries{c:Cup}{s:Int}{g:List Int}(h:LastK c s)(hs2:2≤c.sk){f:List Int}(e:fullM c s.toNat=some f):∀ (k i:Nat) (mx tt:Int),i+k=6→0≤mx→mx+200*k≤100000 →
    ∃ mx' tt':Int,LoopOK Tryz.prog 0 zU22c1 (ltS_S2 c s g i mx tt) (.exit 4) (ltS_S2 c s g 6 mx' tt')
  | 0,i,mx,tt,hk,h0,h1=>by
    obtain rfl:i=6:=by omega
    exact ⟨mx,tt,.exit (ltS_L2_p6 (by omega)) (by simp)⟩
  | k+1,i,mx,tt,hk,h0,h1=>by
    have hL:=h.ok
    have s2:=h.1.sk2
    obtain ⟨hp,p1,p2⟩:=shufM_perm c.sk g mx tt
    have hF:=shuf_full c.sk g mx tt
    have hO:=hF.raceN hL
    obtain ⟨_,⟨n1,n2⟩,n3,n4⟩:=racedN_spec c.sk g (shufM c.sk g mx tt).2.1 (shufM c.sk g mx tt).2.2 ⟨by omega,by omega⟩ ⟨by omega,by omega⟩
    obtain ⟨⟨r,m3,t3⟩,er⟩:∃ q,q=racedN c.sk g (shufM c.sk g mx tt).2.1 (shufM c.sk g mx tt).2.2:=⟨_,rfl⟩
    rw [← er] at n1 n2 n3 n4
    dsimp only at n1 n2 n3 n4
    have hR:RaceN c r:=⟨n1,n2⟩
    obtain ⟨b1,b2,b3,b4⟩:=btwM_bd 2 c.sk g m3 t3
    obtain ⟨⟨q,m6,t6⟩,eb⟩:∃ q,q=btwM 2 c.sk g m3 t3:=⟨_,rfl⟩
    rw [← eb] at b1 b2 b3 b4
    dsimp only at b1 b2 b3 b4
    have hq:2≤q∧q≤c.sk:=by omega
    have w1:=worst_ge hL hO
    have w2:=worst_ge hL hR
    obtain ⟨m9,t9,L⟩:=ltS_tries h hs2 e (g:=g) k (i+1) m6 t6 (by omega) (by omega) (by omega)
    have hsh:=ltS_shuf (c:=c) (s:=s) (g:=g) (mx:=mx) (tt:=tt) (i:=i) (by omega)
    have hb:=full_block hL e hq.1 hq.2
    by_cases h1:rankM (withC c [(shufM c.sk g mx tt).1.map fun x=>x+1]) s.toNat=1
    · exact ⟨m9,t9,.step (ltS_L2_p3 (o'301:=(shufM c.sk g mx tt).1.map fun x=>x+1) (by omega) ⟨h0,by omega⟩ ⟨by omega,by omega⟩ hsh h hO ⟨by omega,by omega⟩ ⟨by omega,by omega⟩ er.symm hR ⟨by omega,by omega⟩ ⟨by omega,by omega⟩ eb.symm hq w1 w2 h1 hb (inR_nat (by omega)) rfl) L⟩
    · exact ⟨m9,t9,.step (ltS_L2_p5 (o'301:=(shufM c.sk g mx tt).1.map fun x=>x+1) (by omega) ⟨h0,by omega⟩ ⟨by omega,by omega⟩ hsh h hO ⟨by omega,by omega⟩ ⟨by omega,by omega⟩ er.symm hR ⟨by omega,by omega⟩ ⟨by omega,by omega⟩ eb.symm hq w1 w2 h1 hb (inR_nat (by omega)) rfl) L⟩

theorem ltN_shuf{c:Cup}{s:Int}{g:List Int}{mx tt:Int}{i:Nat}(hk:c.sk.toNat≤100):LoopOK Tryz.prog 0 zU22c0 (ltN_S3 c s g i mx tt 0 0 []) (.exit 6) (ltN_S3 c s g i mx tt c.sk.toNat ((shufM c.sk g mx tt).1.map fun x=>x+1).length (((shufM c.sk g mx tt).1.map fun x=>x+1).map intP)):=by
  obtain ⟨hp,_,_⟩:=shufM_perm c.sk g mx tt
  have hl:(shufM c.sk g mx tt).1.length=c.sk.toNat:=by rw [hp.length_eq];simp [upL]
  have hb:∀ x∈(shufM c.sk g mx tt).1,0≤x∧x.toNat<c.sk.toNat:=fun x hx=>upL_mem (hp.mem_iff.1 hx)
  exact LoopOK.count (P:=Tryz.prog) (k:=0) (b:=zU22c0) (e := .exit 6) (R:=ltN_S3 c s g i mx tt c.sk.toNat ((shufM c.sk g mx tt).1.map fun x=>x+1).length (((shufM c.sk g mx tt).1.map fun x=>x+1).map intP)) c.sk.toNat
    (fun j=>ltN_S3 c s g i mx tt j (((shufM c.sk g mx tt).1.take j).map fun x=>x+1).length ((((shufM c.sk g mx tt).1.take j).map fun x=>x+1).map intP))
    (fun j hj=>by
      have hx:(shufM c.sk g mx tt).1[j]? = some ((shufM c.sk g mx tt).1[j]'(by omega)):=List.getElem?_eq_getElem (by omega)
      have h0:=hb _ (List.getElem_mem (show j<(shufM c.sk g mx tt).1.length by omega))
      have et:(shufM c.sk g mx tt).1.take (j+1)=(shufM c.sk g mx tt).1.take j++[(shufM c.sk g mx tt).1[j]'(by omega)]:=by rw [List.take_add_one,hx];rfl
      exact ltN_L3_p0 (o:=((shufM c.sk g mx tt).1.take j).map fun x=>x+1) (o':=((shufM c.sk g mx tt).1.take (j+1)).map fun x=>x+1) (by omega) hx (by unfold inR;omega) ⟨rfl,by simp;omega⟩ (inR_nat (by omega)) rfl (by simp;omega) (by rw [et,List.map_append,List.map_append];rfl))
    (by
      have e:(shufM c.sk g mx tt).1.take c.sk.toNat=(shufM c.sk g mx tt).1:=List.take_of_length_le (by omega)
      rw [e]
      exact ltN_L3_p1 (o:=(shufM c.sk g mx tt).1.map fun x=>x+1) (by omega)) (by simp)
theorem ltN_tries{c:Cup}{s:Int}{g:List Int}(h:LastK c s)(hs2:2≤c.sk)(e:fullM c s.toNat=none):∀ (k i:Nat) (mx tt:Int),i+k=6→0≤mx→mx+200*k≤100000 →
    ∃ mx' tt':Int,LoopOK Tryz.prog 0 zU22c1 (ltN_S2 c s g i mx tt) (.exit 4) (ltN_S2 c s g 6 mx' tt')
  | 0,i,mx,tt,hk,h0,h1=>by
    obtain rfl:i=6:=by omega
    exact ⟨mx,tt,.exit (ltN_L2_p5 (by omega)) (by simp)⟩
  | k+1,i,mx,tt,hk,h0,h1=>by
    have hL:=h.ok
    have s2:=h.1.sk2
    obtain ⟨hp,p1,p2⟩:=shufM_perm c.sk g mx tt
    have hF:=shuf_full c.sk g mx tt
    have hO:=hF.raceN hL
    obtain ⟨_,⟨n1,n2⟩,n3,n4⟩:=racedN_spec c.sk g (shufM c.sk g mx tt).2.1 (shufM c.sk g mx tt).2.2 ⟨by omega,by omega⟩ ⟨by omega,by omega⟩
    obtain ⟨⟨r,m3,t3⟩,er⟩:∃ q,q=racedN c.sk g (shufM c.sk g mx tt).2.1 (shufM c.sk g mx tt).2.2:=⟨_,rfl⟩
    rw [← er] at n1 n2 n3 n4
    dsimp only at n1 n2 n3 n4
    have hR:RaceN c r:=⟨n1,n2⟩
    obtain ⟨b1,b2,b3,b4⟩:=btwM_bd 2 c.sk g m3 t3
    obtain ⟨⟨q,m6,t6⟩,eb⟩:∃ q,q=btwM 2 c.sk g m3 t3:=⟨_,rfl⟩
    rw [← eb] at b1 b2 b3 b4
    dsimp only at b1 b2 b3 b4
    have hq:2≤q∧q≤c.sk:=by omega
    have w1:=worst_ge hL hO
    have w2:=worst_ge hL hR
    obtain ⟨m9,t9,L⟩:=ltN_tries h hs2 e (g:=g) k (i+1) m6 t6 (by omega) (by omega) (by omega)
    have hsh:=ltN_shuf (c:=c) (s:=s) (g:=g) (mx:=mx) (tt:=tt) (i:=i) (by omega)
    have h1:=none_first hL e hF
    cases hb:blkM c s.toNat q with
    | true=>exact ⟨m9,t9,.step (ltN_L2_p3 (o'301:=(shufM c.sk g mx tt).1.map fun x=>x+1) (by omega) ⟨h0,by omega⟩ ⟨by omega,by omega⟩ hsh h hO ⟨by omega,by omega⟩ ⟨by omega,by omega⟩ er.symm hR ⟨by omega,by omega⟩ ⟨by omega,by omega⟩ eb.symm hq w1 w2 h1 hb (inR_nat (by omega)) rfl) L⟩
    | false=>exact ⟨m9,t9,.step (ltN_L2_p4 (o'301:=(shufM c.sk g mx tt).1.map fun x=>x+1) (by omega) ⟨h0,by omega⟩ ⟨by omega,by omega⟩ hsh h hO ⟨by omega,by omega⟩ ⟨by omega,by omega⟩ er.symm hR ⟨by omega,by omega⟩ ⟨by omega,by omega⟩ eb.symm hq w1 w2 h1 hb (inR_nat (by omega)) rfl) L⟩

theorem furN_one{c:Cup}{s:Int}(h:LastK c s){r:List Int}(hr:RaceN c r):FurN c [r] :=
  ⟨⟨by have:=h.2.2;simp;omega,hr.valid h.ok⟩,fun x hx=>by rw [List.mem_singleton] at hx;rw [hx];exact hr.ns⟩
theorem lt_tail(c:Cup)(s:Int)(g:List Int)(mx tt:Int)(h:LastK c s)(hs2:2≤c.sk)(hm:0≤mx∧mx≤90000):CodeOK Tryz.prog 0 zU22c3 ⟨fr 295 [(7,(.ptr 0 0)),(8,(.ptr 1 0)),(9,(.ptr 2 0))],[some (.box 25 [(.p (intP c.sk)),(.p (intP c.ra)),(.p (intP c.be)),(.p (intsP c.pts)),(.p (rowsP c.done))]),some (deckO g mx tt),some (.box 3 [(.p (intP s))])]⟩ .ret ⟨fr 295 [(6,(.p (blP true)))],[]⟩:=by
  have s2:=h.1.sk2
  have hW:=worst_race h.ok
  have eW:=worst_eq h.ok
  have hU:=furN_one h hW
  rcases block_cases h.ok with ⟨f,e1,e2⟩ | ⟨e1,q,e2,q1,q2,q3⟩
  · obtain ⟨hF,f1⟩:=full_first h.ok e1
    have hl:=hF.len
    obtain ⟨m,t,L⟩:=ltS_tries h hs2 e1 (g:=g) 6 0 mx tt (by omega) hm.1 (by omega)
    exact ltS_p4 h e1 e2 rfl hW eW (l1:=[(worstM c s.toNat).2.2]) rfl rfl hU ⟨by simp,by omega⟩ (by omega) (lt_srt hF (by omega)) (hF.raceN h.ok) f1 (by omega) L
  · obtain ⟨m,t,L⟩:=ltN_tries h hs2 e1 (g:=g) 6 0 mx tt (by omega) hm.1 (by omega)
    exact ltN_p3 h e1 e2 rfl hW eW (l1:=[(worstM c s.toNat).2.2]) rfl rfl hU ⟨q1,q2⟩ q3 L
theorem last_fill{g:List Int}{w:Int}{c0:Cup}(hV0:KL.Valid c0)(hk:0≤w.tmod c0.sk∧w.tmod c0.sk<c0.sk):∀ (k:Nat) (dn:List (List Int)) (mx tt:Int),(dn.length:Int)+k+1=c0.ra→KL.Valid ⟨c0.sk,c0.ra,c0.be,c0.pts,dn⟩→0≤mx→mx+100*k≤10000 →
    ∃ (dn':List (List Int)) (mx' tt':Int),LoopOK Tryz.prog 0 zU22c2 (lhB_S0 g w c0 dn.length (dn.map intsP) mx tt) (.exit 0) (lhB_S0 g w c0 dn'.length (dn'.map intsP) mx' tt')∧KL.Valid ⟨c0.sk,c0.ra,c0.be,c0.pts,dn'⟩∧(dn'.length:Int)+1=c0.ra∧0≤mx'∧mx'≤10000
  | 0,dn,mx,tt,hl,hV,h0,h1=>⟨dn,mx,tt,.exit (lhB_L0_p1 (by have:=hV0.ra1;have:=hV0.ra2;unfold inR;omega) (by omega)) (by simp),hV,by omega,h0,by omega⟩
  | k+1,dn,mx,tt,hl,hV,h0,h1=>by
    have r1:=hV0.ra1
    have r2:=hV0.ra2
    have s1:=hV0.sk1
    have s2:=hV0.sk2
    obtain ⟨_,n1,n3,n4⟩:=racedM_spec c0.sk true g mx tt ⟨h0,by omega⟩ ⟨by omega,by omega⟩
    obtain ⟨⟨r,m3,t3⟩,er⟩:∃ q,q=racedM c0.sk true g mx tt:=⟨_,rfl⟩
    rw [← er] at n1 n3 n4
    dsimp only at n1 n3 n4
    have hV2:=KL.valid_race hV (by dsimp only;omega) (by rw [n1.len];dsimp only;omega) n1.bd n1.cl
    obtain ⟨dn',m',t',L,hV',q1,q2,q3⟩:=last_fill hV0 hk (g:=g) (w:=w) k (dn++[r]) m3 t3 (by simp;omega) hV2 (by omega) (by omega)
    exact ⟨dn',m',t',.step (lhB_L0_p0 (dn:=dn) (dn':=dn++[r]) (by unfold inR;omega) (by omega) ⟨hV,hk,by dsimp only;omega⟩ ⟨h0,by omega⟩ ⟨by omega,by omega⟩ er.symm ⟨rfl,by omega⟩ (by simp) (by simp)) L,hV',q1,q2,q3⟩
theorem last_law(l g:List Int)(w:Int)(hw:0≤w∧w≤255){base:Nat}:FV Tryz.prog 16 [.p (.sl l.length (l.map byteP)),.p (.sl g.length (g.map byteP)),.p (.v (.int .u8 w))] base (.p (blP true)) []:=by
  have hsp:=madoM_spec 8 6 l 0 17 (by omega) (by omega) (by omega)
  obtain ⟨⟨c,m,t⟩,e⟩:∃ q,q=madoM 8 6 l 0 17:=⟨_,rfl⟩
  rw [← e] at hsp
  obtain ⟨_,hV,hs2,hs8,hr6⟩:=hsp
  dsimp only at hV hs2 hs8 hr6
  have r1:=hV.ra1
  have d1:=hV.dn
  have hk:0≤w.tmod c.sk∧w.tmod c.sk<c.sk:=⟨Int.tmod_nonneg _ hw.1,Int.tmod_lt_of_pos _ (by omega)⟩
  by_cases hl:(c.done.length:Int)=c.ra
  · have hV2:KL.Valid ⟨c.sk,c.ra,c.be,c.pts,c.done.drop 1⟩ :=
      ⟨hV.sk1,hV.sk2,hV.ra1,hV.ra2,hV.be1,hV.be2,hV.pt1,hV.pt2,by simp;omega,fun r hr=>hV.len r (List.mem_of_mem_drop hr),hV.pts,fun r hr=>hV.rows r (List.mem_of_mem_drop hr),hV.falls,by
        have:=hV.clash
        rw [List.any_eq_false] at this ⊢
        exact fun r hr=>this r (List.mem_of_mem_drop hr)⟩
    have T:=lt_tail ⟨c.sk,c.ra,c.be,c.pts,c.done.drop 1⟩ (w.tmod c.sk) g 0 17 ⟨hV2,hk,by simp;omega⟩ hs2 (by omega)
    have e1:(c.done.drop 1).length=c.done.length-1:=by simp
    have e2:(c.done.drop 1).map intsP=((c.done.map intsP).drop (1*1)).take ((c.done.length-1)*1):=by
      rw [Nat.one_mul,Nat.mul_one,List.map_drop,List.take_of_length_le (by simp)]
    have e3:rowsP (c.done.drop 1) = .sl (c.done.length-1) (((c.done.map intsP).drop (1*1)).take ((c.done.length-1)*1)):=by
      show PV.sl (c.done.drop 1).length ((c.done.drop 1).map intsP)=_
      rw [e1,e2]
    dsimp only at T
    rw [e3] at T
    exact lhA_p0 ⟨by omega,by omega⟩ ⟨by omega,by omega⟩ ⟨by omega,by omega⟩ e.symm (by unfold inR;omega) (by omega) hl ⟨by omega,by omega,by omega,by simp⟩ (.exit (lhA_L0_p0 (by unfold inR;omega) (by omega)) (by simp)) T
  · obtain ⟨dn,mx,tt,L,hV2,q1,q2,q3⟩:=last_fill hV hk (g:=g) (c.ra-c.done.length-1).toNat c.done 0 17 (by omega) hV (by omega) (by omega)
    exact lhB_p0 ⟨by omega,by omega⟩ ⟨by omega,by omega⟩ ⟨by omega,by omega⟩ e.symm (by unfold inR;omega) (by omega) hl L (lt_tail ⟨c.sk,c.ra,c.be,c.pts,dn⟩ (w.tmod c.sk) g mx tt ⟨hV2,hk,q1⟩ hs2 ⟨q2,by omega⟩)
end
end KV
end Go.Proofs
