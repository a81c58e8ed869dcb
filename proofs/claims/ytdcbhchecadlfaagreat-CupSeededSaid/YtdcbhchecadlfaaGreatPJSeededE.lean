/- Parts of the proof of JSeeded: laws of walks, contracts of functions, plain models. No condition. -/
import Derived.Test.YtdcbhchecadlfaaGreatPJSeededD
set_option linter.unusedVariables false
set_option linter.unusedSimpArgs false
set_option maxRecDepth 100000
section
namespace Go.Proofs
open KL Go.RowKit
namespace KV
open Go.ChangeMaps (setBlock)
variable {C C0:Cx} {M M0:Mem} {w w0:World}

theorem info3z:(Tryz.prog.info? 3).map (fun i=>(i.zero,i.size,i.bytes))=some (some (.int .i64 0),1,8):=by kernel_rfl
theorem ti3:∃ i,tiOf Tryz.prog 3=some i∧i.agg=false∧i.size=1:=by
  have h:(tiOf Tryz.prog 3).map (fun i=>(i.agg,i.size))=some (false,1):=by kernel_rfl
  cases h2:tiOf Tryz.prog 3 with
  | none=>rw [h2] at h;cases h
  | some i=>rw [h2] at h;simp at h;exact ⟨i,rfl,h.1,h.2⟩
abbrev mpv(mb:Nat):PV := .v (.map (some mb))
abbrev stT(c:KL.Cup)(ns:List Int)(mo:Int)(qs:List Int):St:=⟨fr 161 [(1,(.p (intsP ns))),(2,(.p (intP mo))),(3,(.p (intsP qs))),(10,(.ptr 0 0))],[some (.box 129 [(.p (intP c.sk)),(.p (intP c.ra)),(.p (intP c.be)),(.p (intsP c.pts)),(.p (rowsP c.done))])]⟩
abbrev stA(c:KL.Cup)(ns:List Int)(mo:Int)(qs:List Int)(mv:PV):St:=⟨fr 161 [(1,(.p (intsP ns))),(2,(.p (intP mo))),(3,(.p (intsP qs))),(10,(.ptr 0 0)),(12,(.p mv))],[some (.box 129 [(.p (intP c.sk)),(.p (intP c.ra)),(.p (intP c.be)),(.p (intsP c.pts)),(.p (rowsP c.done))])]⟩
abbrev stB(ns:List Int)(mo:Int)(qs:List Int)(mv:PV)(ts:List Int)(i:Nat):St:=⟨fr 161 [(1,(.p (intsP ns))),(2,(.p (intP mo))),(3,(.p (intsP qs))),(12,(.p mv)),(63,(.p (intsP ts))),(64,(.p (intP (ts.length:Int)))),(65,(.p (intP (i:Int))))],[]⟩
abbrev stD(ns:List Int)(mo:Int)(qs:List Int)(mv:PV)(ts:List Int)(i:Nat)(x:Int):St:=⟨fr 161 [(1,(.p (intsP ns))),(2,(.p (intP mo))),(3,(.p (intsP qs))),(12,(.p mv)),(13,(.p (intP (i:Int)))),(14,(.p (intP x))),(63,(.p (intsP ts))),(64,(.p (intP (ts.length:Int)))),(65,(.p (intP (i:Int))))],[]⟩
abbrev stF(ns:List Int)(mo:Int)(qs:List Int)(mv:PV)(n:Nat)(o:List (List Int)):St:=⟨fr 161 [(1,(.p (intsP ns))),(2,(.p (intP mo))),(3,(.p (intsP qs))),(12,(.p mv)),(15,(.own 0)),(85,(.p (intP (n:Int))))],[some (.row 40 o.length (o.flatten.map intP))]⟩
abbrev stG(ns:List Int)(mo:Int)(qs:List Int)(mv:PV)(n:Nat)(o:List (List Int)):St:=⟨fr 161 [(1,(.p (intsP ns))),(2,(.p (intP mo))),(3,(.p (intsP qs))),(12,(.p mv)),(15,(.own 0)),(16,(.p (intP (n:Int)))),(85,(.p (intP (n:Int))))],[some (.row 40 o.length (o.flatten.map intP))]⟩
abbrev stN(ns:List Int)(mo:Int)(qs:List Int)(mv:PV)(n:Nat)(o:List (List Int)):St:=⟨fr 161 [(1,(.p (intsP ns))),(2,(.p (intP mo))),(3,(.p (intsP qs))),(12,(.p mv)),(15,(.own 0)),(16,(.p (intP (n:Int)))),(17,(.p nilS)),(85,(.p (intP (n:Int))))],[some (.row 40 o.length (o.flatten.map intP))]⟩
abbrev stH(ns:List Int)(mo:Int)(qs:List Int)(mv:PV)(n:Nat)(o:List (List Int))(y:Int)(l:List Int):St:=⟨fr 161 [(1,(.p (intsP ns))),(2,(.p (intP mo))),(3,(.p (intsP qs))),(12,(.p mv)),(15,(.own 0)),(16,(.p (intP (n:Int)))),(17,(.own 1)),(85,(.p (intP (n:Int))))],[some (.row 40 o.length (o.flatten.map intP)),some (.row 3 (l.length+1) ((intP y)::(l.map intP)))]⟩

theorem ops14_ex:∃ l:List Oper,sub (cd Tryz.f23) [1,1,1,1,0,1,0,0,1,1,0,0,1] = .region 14 l.toArray true∧closedL l [0,1,2,3,4,5,6,7,8,9,10,11] 12 13 14=true∧l.map (fun o=>(o.op,o.dst))=[(.move (.tmp 12),some 70),(.move (.tmp 1),some 71),(.move (.tmp 13),some 72),(.indexAddr 22 (.tmp 71) (.tmp 72),some 73),(.load 3 (.tmp 73),some 74),(.move (.tmp 12),some 75),(.move (.tmp 1),some 76),(.move (.tmp 13),some 77),(.indexAddr 22 (.tmp 76) (.tmp 77),some 78),(.load 3 (.tmp 78),some 79),(.lookup 133 (.tmp 75) (.tmp 79) false,some 80),(.move (.tmp 14),some 81),(.buildSlice 22 1 #[(0,.tmp 81)],some 82),(.call { callee := .builtin .append,args := #[.tmp 80,.tmp 82],argTypes := #[22,22] },some 83),(.mapUpdate 133 (.tmp 70) (.tmp 74) (.tmp 83),none)] :=
  ⟨match sub (cd Tryz.f23) [1,1,1,1,0,1,0,0,1,1,0,0,1] with | .region _ ops _=>ops.toList | _=>[],by kernel_rfl,by kernel_rfl,by kernel_rfl⟩
theorem r14{ns ts:List Int}{mo:Int}{qs:List Int}{i:Nat}{k x:Int}(hk:ns[i]? = some k)(hkw:(Lit.int .i64 k).wf=true){G G':List Ent→Prop}(hGl:∀ L,G L→∀ e∈L,e.l.length≤1000)
    (hG:∀ L e mb es,G L→MapOK mb es L→e.k=k→e.l=lookL L k++[x]→G' (putE L e)) :
    CodeR Tryz.prog 0 (sub (cd Tryz.f23) [1,1,1,1,0,1,0,0,1,1,0,0,1]) (fun st R=>∃ mb es cl L,st=stD ns mo qs (mpv mb) ts i x∧R=mapR mb es cl L∧MapOK mb es L∧G L) .normal
      (fun st R=>∃ mb es cl L,st=stD ns mo qs (mpv mb) ts i x∧R=mapR mb es cl L∧MapOK mb es L∧G' L):=by
  obtain ⟨l,hc,hB,hops⟩:=ops14_ex
  rw [hc]
  refine CodeR.hand fun C0 M0 w0 a w st R hM0 hΨ hd hs => ?_
  obtain ⟨mb,es,cl,L,rfl,rfl,hM,hGL⟩:=hΨ
  obtain ⟨o0,l0,rfl,h0,hops⟩:=List.map_eq_cons_iff.1 hops
  obtain ⟨o1,l1,rfl,h1,hops⟩:=List.map_eq_cons_iff.1 hops
  obtain ⟨o2,l2,rfl,h2,hops⟩:=List.map_eq_cons_iff.1 hops
  obtain ⟨o3,l3,rfl,h3,hops⟩:=List.map_eq_cons_iff.1 hops
  obtain ⟨o4,l4,rfl,h4,hops⟩:=List.map_eq_cons_iff.1 hops
  obtain ⟨o5,l5,rfl,h5,hops⟩:=List.map_eq_cons_iff.1 hops
  obtain ⟨o6,l6,rfl,h6,hops⟩:=List.map_eq_cons_iff.1 hops
  obtain ⟨o7,l7,rfl,h7,hops⟩:=List.map_eq_cons_iff.1 hops
  obtain ⟨o8,l8,rfl,h8,hops⟩:=List.map_eq_cons_iff.1 hops
  obtain ⟨o9,l9,rfl,h9,hops⟩:=List.map_eq_cons_iff.1 hops
  obtain ⟨o10,l10,rfl,h10,hops⟩:=List.map_eq_cons_iff.1 hops
  obtain ⟨o11,l11,rfl,h11,hops⟩:=List.map_eq_cons_iff.1 hops
  obtain ⟨o12,l12,rfl,h12,hops⟩:=List.map_eq_cons_iff.1 hops
  obtain ⟨o13,l13,rfl,h13,hops⟩:=List.map_eq_cons_iff.1 hops
  obtain ⟨o14,l14,rfl,h14,hops⟩:=List.map_eq_cons_iff.1 hops
  obtain rfl:=List.map_eq_nil_iff.1 hops
  obtain ⟨q0,d0⟩:=Prod.mk.inj h0
  obtain ⟨q1,d1⟩:=Prod.mk.inj h1
  obtain ⟨q2,d2⟩:=Prod.mk.inj h2
  obtain ⟨q3,d3⟩:=Prod.mk.inj h3
  obtain ⟨q4,d4⟩:=Prod.mk.inj h4
  obtain ⟨q5,d5⟩:=Prod.mk.inj h5
  obtain ⟨q6,d6⟩:=Prod.mk.inj h6
  obtain ⟨q7,d7⟩:=Prod.mk.inj h7
  obtain ⟨q8,d8⟩:=Prod.mk.inj h8
  obtain ⟨q9,d9⟩:=Prod.mk.inj h9
  obtain ⟨q10,d10⟩:=Prod.mk.inj h10
  obtain ⟨q11,d11⟩:=Prod.mk.inj h11
  obtain ⟨q12,d12⟩:=Prod.mk.inj h12
  obtain ⟨q13,d13⟩:=Prod.mk.inj h13
  obtain ⟨q14,d14⟩:=Prod.mk.inj h14
  have hsz:a.tmps.size=161:=hs.size
  have v12:a.tmps.getD 12 undef = .map (some mb):=hs.slot rfl
  have v13:a.tmps.getD 13 undef = .int .i64 i:=hs.slot rfl
  have v14:a.tmps.getD 14 undef = .int .i64 x:=hs.slot rfl
  obtain ⟨p,cap,v1,hc1,hc2,hcell⟩:=hs.ints (i:=1) (l:=ns) rfl
  obtain ⟨b,o,rfl,hb,hcl,hne⟩:=hcell i k hk
  have V12:a.eval (.tmp 12) = .map (some mb):=v12
  have V13:a.eval (.tmp 13) = .int .i64 i:=v13
  have V14:a.eval (.tmp 14) = .int .i64 x:=v14
  have V1:a.eval (.tmp 1) = .slice (some ⟨b,o,none⟩) ns.length cap:=v1
  obtain ⟨i3,t3,ha3,hs3⟩:=ti3
  have hil:(i:Int)<(ns.length:Int):=by
    have:=(List.getElem?_eq_some_iff.1 hk).1
    omega
  have hix:∀ W,(Instr.indexAt 22 (.slice (some ⟨b,o,none⟩) ns.length cap) (.int .i64 i)).run Tryz.prog W = .ok (.pointer (some ⟨b,o+i,none⟩)) W:=fun W=>by
    have:=run_indexAt_slice (P:=Tryz.prog) (w:=W) Tryz.underlying22 t3 (b:=b) (off:=o) (n:=ns.length) (cap:=cap) (k := .i64) (i:=(i:Int)) (by omega) hil
    rw [hs3,Nat.mul_one,Int.toNat_natCast] at this
    exact this
  have hmb:w.heap[mb]? = some (.map es cl):=hs.has (mb,.map es cl) (by simp [mapR])
  have hs':=hs.drawn (w.drawn+1)
  obtain ⟨v2,w2,es',cl',e,hrun,hkeep,hmb2,hup,hM',hek,hel,hd',hsim⟩:=mapStep (P:=Tryz.prog) (kt:=3) (S22:=22) (ty:=o13.type) (k:=k) (x:=x) Tryz.underlying133 Tryz.underlying3 Tryz.underlying22 info3z hs' hd hM hkw (hGl L hGL)
  refine region3 (P:=Tryz.prog) (o1:=o12) (o2:=o13) (o3:=o14) (S:=fun W=>W.cell? ⟨b,o+i,none⟩=some (.int .i64 k)∧W.heap[mb]? = some (.map es cl)) [0,1,2,3,4,5,6,7,8,9,10,11] 12 13 14 mixed hB rfl rfl rfl (fun c a w h=>by cases h.1) ⟨hcl,hmb⟩
    [.map (some mb),.slice (some ⟨b,o,none⟩) ns.length cap,.int .i64 i,.pointer (some ⟨b,o+i,none⟩),.int .i64 k,.map (some mb),.slice (some ⟨b,o,none⟩) ns.length cap,.int .i64 i,.pointer (some ⟨b,o+i,none⟩),.int .i64 k,lookV L k,.int .i64 x] rfl ?_ ?_
  · refine ⟨fun W hW=>ex_move q0 (by simp [eval_put_ne,eval_put_same,put_size,hsz,V12,V13,V14,V1,d0,d1,d2,d3,d4,d5,d6,d7,d8,d9,d10,d11]),fun W hW=>ex_move q1 (by simp [eval_put_ne,eval_put_same,put_size,hsz,V12,V13,V14,V1,d0,d1,d2,d3,d4,d5,d6,d7,d8,d9,d10,d11]),fun W hW=>ex_move q2 (by simp [eval_put_ne,eval_put_same,put_size,hsz,V12,V13,V14,V1,d0,d1,d2,d3,d4,d5,d6,d7,d8,d9,d10,d11]),fun W hW=>ex_index q3 (by simp [eval_put_ne,eval_put_same,put_size,hsz,V12,V13,V14,V1,d0,d1,d2,d3,d4,d5,d6,d7,d8,d9,d10,d11]) (by simp [eval_put_ne,eval_put_same,put_size,hsz,V12,V13,V14,V1,d0,d1,d2,d3,d4,d5,d6,d7,d8,d9,d10,d11]) (hix W),fun W hW=>ex_load q4 (by simp [eval_put_ne,eval_put_same,put_size,hsz,V12,V13,V14,V1,d0,d1,d2,d3,d4,d5,d6,d7,d8,d9,d10,d11]) (run_load1 t3 ha3 hW.1),fun W hW=>ex_move q5 (by simp [eval_put_ne,eval_put_same,put_size,hsz,V12,V13,V14,V1,d0,d1,d2,d3,d4,d5,d6,d7,d8,d9,d10,d11]),fun W hW=>ex_move q6 (by simp [eval_put_ne,eval_put_same,put_size,hsz,V12,V13,V14,V1,d0,d1,d2,d3,d4,d5,d6,d7,d8,d9,d10,d11]),fun W hW=>ex_move q7 (by simp [eval_put_ne,eval_put_same,put_size,hsz,V12,V13,V14,V1,d0,d1,d2,d3,d4,d5,d6,d7,d8,d9,d10,d11]),fun W hW=>ex_index q8 (by simp [eval_put_ne,eval_put_same,put_size,hsz,V12,V13,V14,V1,d0,d1,d2,d3,d4,d5,d6,d7,d8,d9,d10,d11]) (by simp [eval_put_ne,eval_put_same,put_size,hsz,V12,V13,V14,V1,d0,d1,d2,d3,d4,d5,d6,d7,d8,d9,d10,d11]) (hix W),fun W hW=>ex_load q9 (by simp [eval_put_ne,eval_put_same,put_size,hsz,V12,V13,V14,V1,d0,d1,d2,d3,d4,d5,d6,d7,d8,d9,d10,d11]) (run_load1 t3 ha3 hW.1),fun W hW=>ex_lookup q10 (by simp [eval_put_ne,eval_put_same,put_size,hsz,V12,V13,V14,V1,d0,d1,d2,d3,d4,d5,d6,d7,d8,d9,d10,d11]) (by simp [eval_put_ne,eval_put_same,put_size,hsz,V12,V13,V14,V1,d0,d1,d2,d3,d4,d5,d6,d7,d8,d9,d10,d11]) (look_run Tryz.underlying133 Tryz.underlying3 rfl hW.2 hM hkw),fun W hW=>ex_move q11 (by simp [eval_put_ne,eval_put_same,put_size,hsz,V12,V13,V14,V1,d0,d1,d2,d3,d4,d5,d6,d7,d8,d9,d10,d11]),trivial⟩
  · intro a' ha'
    have e70:a'.eval (.tmp 70) = .map (some mb):=by rw [ha'];simp [putsL,eval_put_ne,eval_put_same,put_size,hsz,V12,V13,V14,V1,d0,d1,d2,d3,d4,d5,d6,d7,d8,d9,d10,d11]
    have e74:a'.eval (.tmp 74) = .int .i64 k:=by rw [ha'];simp [putsL,eval_put_ne,eval_put_same,put_size,hsz,V12,V13,V14,V1,d0,d1,d2,d3,d4,d5,d6,d7,d8,d9,d10,d11]
    have e80:a'.eval (.tmp 80)=lookV L k:=by rw [ha'];simp [putsL,eval_put_ne,eval_put_same,put_size,hsz,V12,V13,V14,V1,d0,d1,d2,d3,d4,d5,d6,d7,d8,d9,d10,d11]
    have e81:a'.eval (.tmp 81) = .int .i64 x:=by rw [ha'];simp [putsL,eval_put_ne,eval_put_same,put_size,hsz,V12,V13,V14,V1,d0,d1,d2,d3,d4,d5,d6,d7,d8,d9,d10,d11]
    have hsz':a'.tmps.size=161:=by rw [ha'];simp [putsL,put_size,hsz,d0,d1,d2,d3,d4,d5,d6,d7,d8,d9,d10,d11]
    obtain ⟨inf,hi,hz,hz1,hz2⟩:=info_parts info3z
    have hbld:∀ W:World,(Instr.buildSlice 22 1 #[(0,.int .i64 x)]).run Tryz.prog W = .ok (.slice (some ⟨W.heap.size,0,none⟩) 1 1) (W.alloc (.cells #[.int .i64 x] 3)):=fun W =>
      run_build0 (P:=Tryz.prog) 22 3 inf 1 #[(0,.int .i64 x)] #[.int .i64 x] (.int .i64 0) Tryz.underlying22 hi hz (by rw [hz1];decide) (by rw [hz1];kernel_rfl)
    refine ⟨_,_,v2,w2,setBlock w2 mb (.map es' cl'),ex_build1 q12 e81 (hbld _),?_,ex_append q13 (by rw [d12,eval_put_ne rfl];exact e80) (by rw [d12,eval_put_same (by omega)]) hrun,⟨?_,hmb2.trans hmb⟩,ex_update q14 (by rw [d12,d13,eval_put_ne rfl,eval_put_ne rfl];exact e70) (by rw [d12,d13,eval_put_ne rfl,eval_put_ne rfl];exact e74) (by rw [d12,d13,eval_put_same (by rw [put_size];omega)]) hup,?_⟩
    · obtain ⟨n1,n2,n3⟩:=heap_push { w with drawn:=w.drawn+1 } (.cells #[.int .i64 x] 3)
      exact ⟨(cell_heap (n3 b hb) _).trans hcl,(n3 mb (lt_of_some hmb)).trans hmb⟩
    · exact (cell_heap (hkeep b hb fun q hq=>hne q (List.mem_append_left _ hq)) _).trans hcl
    · refine ⟨rfl,_,_,⟨mb,es',cl',putE L e,rfl,rfl,hM',hG L e mb es hGL hM hek hel⟩,hd',?_⟩
      have h1:=(Sim.anyL [(o0,.map (some mb)),(o1,.slice (some ⟨b,o,none⟩) ns.length cap),(o2,.int .i64 i),(o3,.pointer (some ⟨b,o+i,none⟩)),(o4,.int .i64 k),(o5,.map (some mb)),(o6,.slice (some ⟨b,o,none⟩) ns.length cap),(o7,.int .i64 i),(o8,.pointer (some ⟨b,o+i,none⟩)),(o9,.int .i64 k),(o10,lookV L k),(o11,.int .i64 x)] hsim (by
        simp only [List.all_cons,List.all_nil,d0,d1,d2,d3,d4,d5,d6,d7,d8,d9,d10,d11]
        rfl))
      have h2:=((h1.any o12.dst (.slice (some ⟨w.heap.size,0,none⟩) 1 1) (fun i hi=>by rw [d12] at hi;cases hi;rfl)).any o13.dst v2 (fun i hi=>by rw [d13] at hi;cases hi;rfl)).any o14.dst undef (fun i hi=>by rw [d14] at hi;cases hi)
      rw [ha']
      exact h2
end KV
end Go.Proofs
end
section
namespace Go.Proofs
open KL Go.RowKit
namespace KV
open Go.ChangeMaps (setBlock)
variable {C C0:Cx} {M M0:Mem} {w w0:World}

def grp(ns ts:List Int)(g:Int)(i:Nat):List Int:=((ns.zip ts).take i).filterMap fun p=>if p.1=g then some p.2 else none
theorem grp_zero(ns ts:List Int)(g:Int):grp ns ts g 0=[]:=rfl
theorem grp_succ{ns ts:List Int}{g k x:Int}{i:Nat}(hk:ns[i]? = some k)(hx:ts[i]? = some x):grp ns ts g (i+1)=grp ns ts g i++(if k=g then [x] else []):=by
  have:(ns.zip ts)[i]? = some (k,x):=List.getElem?_zip_eq_some.2 ⟨hk,hx⟩
  unfold grp
  rw [List.take_add_one,this,List.filterMap_append]
  by_cases h:k=g <;> simp [h]
theorem grp_len(ns ts:List Int)(g:Int)(i:Nat):(grp ns ts g i).length≤i:=by
  unfold grp
  exact Nat.le_trans (List.length_filterMap_le _ _) (List.length_take_le _ _)

structure GrpOK (ns ts:List Int) (i:Nat) (L:List Ent):Prop where
  a:∀ e∈L,e.l=grp ns ts e.k i∧e.l≠[]
  b:∀ g,grp ns ts g i≠[]→∃ e∈L,e.k=g
theorem GrpOK.nil(ns ts:List Int):GrpOK ns ts 0 []:=⟨fun e h=>by simp at h,fun g h=>absurd (grp_zero ns ts g) h⟩
theorem GrpOK.look{ns ts:List Int}{i:Nat}{L:List Ent}(h:GrpOK ns ts i L)(k:Int):lookL L k=grp ns ts k i:=by
  unfold lookL
  cases hl:lookE L k with
  | some e =>
    obtain ⟨h1,rfl⟩:=lookE_some hl
    exact (h.a e h1).1
  | none =>
    cases hg:grp ns ts k i with
    | nil=>rfl
    | cons y l =>
      obtain ⟨e,he,hk⟩:=h.b k (by rw [hg];simp)
      exact absurd hk (lookE_none hl e he)
theorem GrpOK.step{ns ts:List Int}{i:Nat}{L:List Ent}{k x:Int}(hk:ns[i]? = some k)(hx:ts[i]? = some x)(h:GrpOK ns ts i L)(e:Ent)(hek:e.k=k)(hel:e.l=lookL L k++[x]):GrpOK ns ts (i+1) (putE L e):=by
  refine ⟨fun y hy => ?_,fun g hg => ?_⟩
  · rcases mem_putE.1 hy with ⟨h1,h2⟩ | rfl
    · obtain ⟨q1,q2⟩:=h.a y h1
      refine ⟨?_,q2⟩
      rw [grp_succ hk hx,if_neg (fun h=>h2 (by rw [hek,h])),List.append_nil]
      exact q1
    · refine ⟨?_,by rw [hel];simp⟩
      rw [hel,h.look,grp_succ hk hx,hek,if_pos rfl]
  · by_cases hgk:g=k
    · exact ⟨e,mem_putE.2 (.inr rfl),by rw [hek,hgk]⟩
    · rw [grp_succ hk hx,if_neg (fun h=>hgk h.symm),List.append_nil] at hg
      obtain ⟨y,hy,hyk⟩:=h.b g hg
      exact ⟨y,mem_putE.2 (.inl ⟨hy,by rw [hyk,hek];exact hgk⟩),hyk⟩

def PsiM(f:PV→St)(G:List Ent→Prop):SR:=fun st R=>∃ mb es cl L,st=f (mpv mb)∧R=mapR mb es cl L∧MapOK mb es L∧G L
def PsiK(f:PV→St)(n:Nat)(G:List Ent→Prop):SR:=fun st R=>∃ mb es cl L,st=f (mpv mb)∧(mb,Obj.map es cl)∈R∧(∀ e∈L,(n:Int)≤e.k→e.blk∈R)∧MapOK mb es L∧G L
section
variable {c:Code} {f f':PV→St} {G:List Ent→Prop} {e:Ex}
theorem CodeR.ofM(h:∀ mb,CodeOK Tryz.prog 0 c (f (mpv mb)) e (f' (mpv mb))):CodeR Tryz.prog 0 c (PsiM f G) e (PsiM f' G):=CodeR.of fun st R ⟨mb,es,cl,L,h1,h2,h3,h4⟩=>⟨_,⟨mb,es,cl,L,rfl,h2,h3,h4⟩,h1 ▸ h mb⟩
theorem CodeR.ofK{n n':Nat}(hn:n≤n')(h:∀ mb,CodeOK Tryz.prog 0 c (f (mpv mb)) e (f' (mpv mb))):CodeR Tryz.prog 0 c (PsiK f n G) e (PsiK f' n' G):=CodeR.of fun st R ⟨mb,es,cl,L,h1,h2,h3,h4,h5⟩=>⟨_,⟨mb,es,cl,L,rfl,h2,fun e he hk=>h3 e he (by omega),h4,h5⟩,h1 ▸ h mb⟩
end

theorem ops10_ex:∃ l:List Oper,sub (cd Tryz.f23) [1,1,1,0] = .region 10 l.toArray false∧l.map (fun o=>(o.op,o.dst,o.guard))=[(.makeMap 133 none,some 61,none),(.assign (.tmp 61),some 12,none)] :=
  ⟨match sub (cd Tryz.f23) [1,1,1,0] with | .region _ ops _=>ops.toList | _=>[],by kernel_rfl,by kernel_rfl⟩
theorem r10{c:KL.Cup}{ns:List Int}{mo:Int}{qs ts:List Int}:CodeR Tryz.prog 0 (sub (cd Tryz.f23) [1,1,1,0]) (fun st R=>st=stT c ns mo qs∧R=[]) .normal (PsiM (stA c ns mo qs) (GrpOK ns ts 0)):=by
  obtain ⟨l,hc,hops⟩:=ops10_ex
  rw [hc]
  refine CodeR.hand fun C0 M0 w0 a w st R hM0 hΨ hd hs => ?_
  obtain ⟨rfl,rfl⟩:=hΨ
  obtain ⟨o0,l0,rfl,h0,hops⟩:=List.map_eq_cons_iff.1 hops
  obtain ⟨o1,l1,rfl,h1,hops⟩:=List.map_eq_cons_iff.1 hops
  obtain rfl:=List.map_eq_nil_iff.1 hops
  obtain ⟨q0,h0⟩:=Prod.mk.inj h0
  obtain ⟨d0,g0⟩:=Prod.mk.inj h0
  obtain ⟨q1,h1⟩:=Prod.mk.inj h1
  obtain ⟨d1,g1⟩:=Prod.mk.inj h1
  have hsz:a.tmps.size=161:=hs.size
  obtain ⟨n1,n2,n3⟩:=heap_push w (.map #[] 0)
  refine wp_region_lit (lex_one (id:=10) g0 (ex_makeMap q0) (lex_one (id:=10) g1 (ex_assign (v := .map (some w.heap.size)) q1 (by rw [d0,eval_put_same (by omega)])) ?_))
  refine wpList_nil ⟨rfl,_,_,⟨w.heap.size,#[],0,[],rfl,rfl,MapOK.nil _,GrpOK.nil _ _⟩,?_,?_⟩
  · intro p hp q hq
    rcases mem_mapR.1 hp with rfl | ⟨e,he,_⟩
    · intro hpq
      have:=lt_of_some (hs.has q (List.mem_append_right _ hq))
      change w.heap.size=q.1 at hpq
      omega
    · simp at he
  · have h2:=hs.beside (R':=mapR w.heap.size #[] 0 []++C0.R) (w':=w.alloc (.map #[] 0)) (fun _=>False) (fun _ h=>h.elim) rfl rfl rfl (by omega) (fun b hb _=>n3 b hb) (fun p hp=>by
      rcases List.mem_append.1 hp with hp | hp
      · rcases mem_mapR.1 hp with rfl | ⟨e,he,_⟩
        · exact .inr ⟨n2,(fun h=>by cases h),.inl (Nat.le_refl _)⟩
        · simp at he
      · exact .inl ⟨List.mem_append_right _ hp,fun h=>h⟩)
    have h3:=(h2.any o0.dst (.map (some w.heap.size)) (fun i hi=>by rw [d0] at hi;cases hi;rfl)).put (some 12) (x := .p (mpv w.heap.size)) (u := .map (some w.heap.size)) (fun _ _ => .p _ _ (.v _))
    rw [d1]
    exact h3

theorem ops20_ex:∃ l:List Oper,sub (cd Tryz.f23) [1,1,1,1,1,1,0,1,0,0,1,1,0,0,1,0] = .region 20 l.toArray false∧l.map (fun o=>(o.op,o.dst,o.guard))=[(.move (.tmp 12),some 88,none),(.move (.tmp 16),some 89,none),(.lookup 133 (.tmp 88) (.tmp 89) false,some 90,none),(.assign (.tmp 90),some 17,none)] :=
  ⟨match sub (cd Tryz.f23) [1,1,1,1,1,1,0,1,0,0,1,1,0,0,1,0] with | .region _ ops _=>ops.toList | _=>[],by kernel_rfl,by kernel_rfl⟩
theorem wf_int{n:Nat}(h:n≤1000):(Lit.int .i64 (n:Int)).wf=true:=by
  simp [Lit.wf,IntKind.min,IntKind.max,IntKind.bits,IntKind.signed]
  omega
theorem r20a{ns ts:List Int}{mo:Int}{qs:List Int}{n:Nat}{o:List (List Int)}{N:Nat}(hn:n≤1000)(K:Act→World→Prop){C0:Cx}{a:Act}{R:List (Nat × Obj)}{mb cl:Nat}{es:Array MapEntry}{L:List Ent}{Q:Exit→Act→World→Prop}(hm:(mb,Obj.map es cl)∈R)(hM:MapOK mb es L)
    (hs:Sim Tryz.prog (C0.with (R++C0.R)) M0 w0 (stG ns mo qs (mpv mb) n o) a w)
    (h:∀ a',(a'.tmps.getD 17 undef=lookV L n)→Sim Tryz.prog (C0.with (R++C0.R)) M0 w0 ⟨KV.put (stG ns mo qs (mpv mb) n o).t (some 17) .any,(stG ns mo qs (mpv mb) n o).m⟩ a' w→Q .normal a' w) :
    (sub (cd Tryz.f23) [1,1,1,1,1,1,0,1,0,0,1,1,0,0,1,0]).wp Tryz.prog Q a w:=by
  obtain ⟨l,hc,hops⟩:=ops20_ex
  rw [hc]
  obtain ⟨o0,l0,rfl,h0,hops⟩:=List.map_eq_cons_iff.1 hops
  obtain ⟨o1,l1,rfl,h1,hops⟩:=List.map_eq_cons_iff.1 hops
  obtain ⟨o2,l2,rfl,h2,hops⟩:=List.map_eq_cons_iff.1 hops
  obtain ⟨o3,l3,rfl,h3,hops⟩:=List.map_eq_cons_iff.1 hops
  obtain rfl:=List.map_eq_nil_iff.1 hops
  obtain ⟨q0,h0⟩:=Prod.mk.inj h0
  obtain ⟨d0,g0⟩:=Prod.mk.inj h0
  obtain ⟨q1,h1⟩:=Prod.mk.inj h1
  obtain ⟨d1,g1⟩:=Prod.mk.inj h1
  obtain ⟨q2,h2⟩:=Prod.mk.inj h2
  obtain ⟨d2,g2⟩:=Prod.mk.inj h2
  obtain ⟨q3,h3⟩:=Prod.mk.inj h3
  obtain ⟨d3,g3⟩:=Prod.mk.inj h3
  have hsz:a.tmps.size=161:=hs.size
  have V12:a.eval (.tmp 12) = .map (some mb):=hs.slot rfl
  have V16:a.eval (.tmp 16) = .int .i64 n:=hs.slot rfl
  have hmb:w.heap[mb]? = some (.map es cl):=hs.has (mb,.map es cl) (List.mem_append_left _ hm)
  refine wp_region_lit (lex_one (id:=20) g0 (ex_move (v := .map (some mb)) q0 V12) (lex_one (id:=20) g1 (ex_move (v := .int .i64 n) q1 (by rw [d0,eval_put_ne rfl];exact V16)) (lex_one (id:=20) g2 (ex_lookup (v := .map (some mb)) (u := .int .i64 n) (r:=lookV L n) q2 (by rw [d0,d1,eval_put_ne rfl,eval_put_same (by omega)]) (by rw [d0,d1,eval_put_same (by rw [put_size];omega)])
    (look_run Tryz.underlying133 Tryz.underlying3 rfl hmb hM (wf_int hn))) (lex_one (id:=20) g3 (ex_assign (v:=lookV L n) q3 (by rw [d2,eval_put_same (by rw [d0,d1,put_size,put_size];omega)])) ?_))))
  refine wpList_nil (h _ ?_ ?_)
  · rw [d0,d1,d2,d3]
    rw [← eval_tmp]
    exact eval_put_same (by rw [put_size,put_size,put_size];omega)
  · have h4:=((hs.any o0.dst (.map (some mb)) (fun i hi=>by rw [d0] at hi;cases hi;rfl)).any o1.dst (.int .i64 n) (fun i hi=>by rw [d1] at hi;cases hi;rfl)).any o2.dst (lookV L n) (fun i hi=>by rw [d2] at hi;cases hi;rfl)
    have h5:=h4.put (some 17) (x := .any) (u:=lookV L n) (fun _ _ => .any _)
    rw [d3]
    exact h5
theorem r20n{ns ts:List Int}{mo:Int}{qs:List Int}{n:Nat}{o:List (List Int)}{N:Nat}(hn:n≤1000)(hg:grp ns ts n N=[]):CodeR Tryz.prog 0 (sub (cd Tryz.f23) [1,1,1,1,1,1,0,1,0,0,1,1,0,0,1,0]) (PsiK (fun mv=>stG ns mo qs mv n o) n (GrpOK ns ts N)) .normal
    (PsiK (fun mv=>stN ns mo qs mv n o) n (GrpOK ns ts N)):=by
  refine CodeR.hand fun C0 M0 w0 a w st R hM0 hΨ hd hs => ?_
  obtain ⟨mb,es,cl,L,rfl,hm,hR,hM,hG⟩:=hΨ
  refine r20a (ts:=ts) (N:=N) hn (fun _ _=>True) hm hM hs fun a' hv hs'=>⟨rfl,_,R,⟨mb,es,cl,L,rfl,hm,hR,hM,hG⟩,hd,?_⟩
  have hl:lookV L n = .slice none 0 0:=by
    unfold lookV
    cases h:lookE L n with
    | none=>rfl
    | some e =>
      obtain ⟨h1,h2⟩:=lookE_some h
      obtain ⟨q1,q2⟩:=hG.a e h1
      rw [h2,hg] at q1
      exact absurd q1 q2
  have hput:a'.put (some 17) (.slice none 0 0)=a':=by
    unfold Act.put
    have hsz:a'.tmps.size=161:=hs'.size
    have:a'.tmps.setIfInBounds 17 (.slice none 0 0)=a'.tmps:=by
      apply Array.ext
      · simp
      · intro j h1 h2
        rw [Array.getElem_setIfInBounds (by simpa using h1)]
        split
        · rename_i e
          subst e
          rw [hl,Array.getD_eq_getD_getElem?,Array.getElem?_eq_getElem h2] at hv
          exact hv.symm
        · rfl
    simp only [this]
  have h5:=hs'.put (some 17) (x := .p nilS) (u := .slice none 0 0) (fun _ _ => .p _ _ (.v _))
  rw [hput] at h5
  exact h5
theorem r20c{ns ts:List Int}{mo:Int}{qs:List Int}{n:Nat}{o:List (List Int)}{N:Nat}{y:Int}{l:List Int}(hn:n≤1000)(hg:grp ns ts n N=y::l):CodeR Tryz.prog 0 (sub (cd Tryz.f23) [1,1,1,1,1,1,0,1,0,0,1,1,0,0,1,0]) (PsiK (fun mv=>stG ns mo qs mv n o) n (GrpOK ns ts N)) .normal
    (PsiK (fun mv=>stH ns mo qs mv n o y l) (n+1) (GrpOK ns ts N)):=by
  refine CodeR.hand fun C0 M0 w0 a w st R hM0 hΨ hd hs => ?_
  obtain ⟨mb,es,cl,L,rfl,hm,hR,hM,hG⟩:=hΨ
  obtain ⟨e,he,hek⟩:=hG.b n (by rw [hg];simp)
  obtain ⟨q1,q2⟩:=hG.a e he
  rw [hek,hg] at q1
  have heR:=hR e he (by rw [hek];omega)
  have hl:lookV L n=e.val:=by unfold lookV;rw [lookE_mem hM.keys he hek]
  refine r20a (ts:=ts) (N:=N) hn (fun _ _=>True) hm hM hs fun a' hv hs'=>⟨rfl,_,R.filter (fun p=>p.1 != e.b),⟨mb,es,cl,L,rfl,List.mem_filter.2 ⟨hm,by simpa using (hM.b_mb he).symm⟩,fun e' he' hk=>List.mem_filter.2 ⟨hR e' he' (by omega),?_⟩,hM,hG⟩,fun p hp=>hd p ((List.mem_filter.1 hp).1),?_⟩
  · simp only [Ent.blk,bne_iff_ne,ne_eq]
    intro hb
    have:=hM.b_inj he' he hb
    rw [this,hek] at hk
    omega
  · have h6:=hs'.less (R':=e.blk::(R.filter (fun p=>p.1 != e.b)++C0.R)) (fun p hp=>by
      rcases List.mem_cons.1 hp with rfl | hp
      · exact List.mem_append_left _ heR
      · rcases List.mem_append.1 hp with hp | hp
        · exact List.mem_append_left _ ((List.mem_filter.1 hp).1)
        · exact List.mem_append_right _ hp)
    obtain ⟨i,hi,hsz⟩:=size3
    have hok:=hM.ok e he
    have hat:=hok.at_
    obtain ⟨r1,r2⟩:=vals_arr (w:=w) (fun _=>True) hat
    have h7:=h6.hand (k:=1) (d:=17) (n:=e.l.length) (cap:=e.cap) (cs:=e.l.map intP) (i:=i) (fun p hp=>by
        rcases List.mem_append.1 hp with hp | hp
        · simpa using (List.mem_filter.1 hp).2
        · exact fun h=>hd e.blk heR p hp h.symm) (by omega) (fun o ho=>by cases ho) (by rw [hv,hl];rfl) hi (by rw [hsz,Nat.mul_one];exact hok.sz) (by rw [hsz];simp) hok.le hok.cap
      (fun F j hj=>(vals_arr (w:=w) F hat).1 j hj) r2
    rw [q1] at h7
    exact h7
end KV
end Go.Proofs
end
section
namespace Go.Proofs
open KL Go.RowKit
namespace KV

abbrev stB6(ns:List Int)(mo:Int)(qs:List Int)(mv:PV)(ts:List Int)(i:Nat):St:=⟨fr 161 [(1,(.p (intsP ns))),(2,(.p (intP mo))),(3,(.p (intsP qs))),(12,(.p mv)),(63,(.p (intsP ts))),(64,(.p (intP (ts.length:Int)))),(65,(.p (intP (i:Int)))),(66,(.p (blP (decide ((i:Int)<(ts.length:Int))))))],[]⟩
abbrev stF6(ns:List Int)(mo:Int)(qs:List Int)(mv:PV)(n:Nat)(o:List (List Int)):St:=⟨fr 161 [(1,(.p (intsP ns))),(2,(.p (intP mo))),(3,(.p (intsP qs))),(12,(.p mv)),(15,(.own 0)),(85,(.p (intP (n:Int)))),(86,(.p (blP (decide ((n:Int)<(31:Int))))))],[some (.row 40 o.length (o.flatten.map intP))]⟩
theorem nat_loop1{ns ts:List Int}{mo:Int}{qs:List Int}(hl:ns.length=ts.length)(hw:∀ k∈ns,(Lit.int .i64 k).wf=true)(hN:ts.length≤1000) :
    CodeR Tryz.prog 0 (sub (cd Tryz.f23) [1,1,1,1,0,1]) (PsiM (fun mv=>stB ns mo qs mv ts 0) (GrpOK ns ts 0)) .normal (PsiM (fun mv=>stB ns mo qs mv ts ts.length) (GrpOK ns ts ts.length)):=by
  rw [show sub (cd Tryz.f23) [1,1,1,1,0,1] = .block 1 (.loop (sub (cd Tryz.f23) [1,1,1,1,0,1,0,0])) from by kernel_rfl]
  refine CodeR.block (LoopR.code (LoopR.times ts.length (fun i=>PsiM (fun mv=>stB ns mo qs mv ts i) (GrpOK ns ts i)) (fun i hi => ?_) ?_ (by simp)))
  · rw [show sub (cd Tryz.f23) [1,1,1,1,0,1,0,0] = .seq (sub (cd Tryz.f23) [1,1,1,1,0,1,0,0,0]) (.seq (sub (cd Tryz.f23) [1,1,1,1,0,1,0,0,1,0]) (.seq (.block 2 (.seq (sub (cd Tryz.f23) [1,1,1,1,0,1,0,0,1,1,0,0,0]) (sub (cd Tryz.f23) [1,1,1,1,0,1,0,0,1,1,0,0,1]))) (sub (cd Tryz.f23) [1,1,1,1,0,1,0,0,1,1,1]))) from by kernel_rfl]
    obtain ⟨k,hk⟩:∃ k,ns[i]? = some k:=⟨_,List.getElem?_eq_getElem (by omega)⟩
    obtain ⟨x,hx⟩:∃ x,ts[i]? = some x:=⟨_,List.getElem?_eq_getElem hi⟩
    have hr:CodeR Tryz.prog 0 (sub (cd Tryz.f23) [1,1,1,1,0,1,0,0,1,1,0,0,1]) (PsiM (fun mv=>stD ns mo qs mv ts i x) (GrpOK ns ts i)) .normal (PsiM (fun mv=>stD ns mo qs mv ts i x) (GrpOK ns ts (i+1))) :=
      r14 (G:=GrpOK ns ts i) (G':=GrpOK ns ts (i+1)) hk (hw k (List.mem_of_getElem? hk)) (fun L hG e he=>by
        rw [(hG.a e he).1]
        have:=grp_len ns ts e.k i
        omega) (fun L e mb es hG hM hek hel=>hG.step hk hx e hek hel)
    exact CodeR.seq (CodeR.ofM (f':=fun mv=>stB6 ns mo qs mv ts i) fun mb=>n12_p0) (CodeR.seq (CodeR.ofM (f':=fun mv=>stB ns mo qs mv ts i) fun mb=>n12c_p0 (by omega)) (CodeR.seq (CodeR.blockn (CodeR.seq (CodeR.ofM (f':=fun mv=>stD ns mo qs mv ts i x) fun mb=>n13_p0 hx) hr)) (CodeR.ofM (f:=fun mv=>stD ns mo qs mv ts i x) (f':=fun mv=>stB ns mo qs mv ts (i+1)) fun mb=>n15_p0 (inR_nat (by omega)))))
  · rw [show sub (cd Tryz.f23) [1,1,1,1,0,1,0,0] = .seq (sub (cd Tryz.f23) [1,1,1,1,0,1,0,0,0]) (.seq (sub (cd Tryz.f23) [1,1,1,1,0,1,0,0,1,0]) (sub (cd Tryz.f23) [1,1,1,1,0,1,0,0,1,1])) from by kernel_rfl]
    exact CodeR.seq (CodeR.ofM (f':=fun mv=>stB6 ns mo qs mv ts ts.length) fun mb=>n12_p0) (CodeR.seqx (CodeR.ofM fun mb=>n12c_p1 (by omega)) (by simp))

def bestS(mo:Int)(l:List Int):Int:=((downI l).take (min mo.toNat l.length)).sum
def outG(ns ts:List Int)(mo:Int)(N g:Nat):List (List Int):=if grp ns ts g N=[] then [] else [[(g:Int),1,bestS mo (grp ns ts g N),0]]
def outL(ns ts:List Int)(mo:Int)(N n:Nat):List (List Int):=(List.range n).flatMap (outG ns ts mo N)
theorem outL_succ(ns ts:List Int)(mo:Int)(N n:Nat):outL ns ts mo N (n+1)=outL ns ts mo N n++outG ns ts mo N n:=by
  unfold outL
  rw [List.range_succ,List.flatMap_append,List.flatMap_singleton]
theorem outL_len(ns ts:List Int)(mo:Int)(N n:Nat):(outL ns ts mo N n).length≤n:=by
  induction n with
  | zero=>simp [outL]
  | succ n ih =>
    rw [outL_succ,List.length_append]
    have:(outG ns ts mo N n).length≤1:=by unfold outG;split <;> simp
    omega
theorem sum_bd{l:List Int}(h:∀ x∈l,0≤x∧x≤1000000):0≤l.sum∧l.sum≤1000000*l.length:=by
  induction l with
  | nil=>simp
  | cons x r ih =>
    have h1:=h x (List.mem_cons_self ..)
    have h2:=ih fun y hy=>h y (List.mem_cons_of_mem _ hy)
    rw [List.sum_cons,List.length_cons]
    omega
theorem grp_mem{ns ts:List Int}{g x:Int}{i:Nat}(h:x∈grp ns ts g i):x∈ts:=by
  unfold grp at h
  obtain ⟨p,hp,hx⟩:=List.mem_filterMap.1 h
  split at hx
  · cases hx
    exact (List.of_mem_zip (List.mem_of_mem_take hp)).2
  · cases hx
theorem downI_mem{l:List Int}{x:Int}:x∈downI l↔x∈l:=isort_mem _ _ _
theorem downI_len(l:List Int):(downI l).length=l.length:=isort_length _ _

theorem nat_loop2{ns ts:List Int}{mo:Int}{qs:List Int}(hl:ns.length=ts.length)(hN:ts.length≤12)(hmo:1≤mo∧mo≤12)(hts:∀ x∈ts,0≤x∧x≤1000000) :
    CodeR Tryz.prog 0 (sub (cd Tryz.f23) [1,1,1,1,1,1,0,1]) (PsiK (fun mv=>stF ns mo qs mv 0 []) 0 (GrpOK ns ts ts.length)) .normal (PsiK (fun mv=>stF ns mo qs mv 31 (outL ns ts mo ts.length 31)) 31 (GrpOK ns ts ts.length)):=by
  rw [show sub (cd Tryz.f23) [1,1,1,1,1,1,0,1] = .block 3 (.loop (sub (cd Tryz.f23) [1,1,1,1,1,1,0,1,0,0])) from by kernel_rfl]
  refine CodeR.block (LoopR.code (LoopR.times 31 (fun n=>PsiK (fun mv=>stF ns mo qs mv n (outL ns ts mo ts.length n)) n (GrpOK ns ts ts.length)) (fun n hn => ?_) ?_ (by simp)))
  · rw [show sub (cd Tryz.f23) [1,1,1,1,1,1,0,1,0,0] = .seq (sub (cd Tryz.f23) [1,1,1,1,1,1,0,1,0,0,0]) (.seq (sub (cd Tryz.f23) [1,1,1,1,1,1,0,1,0,0,1,0]) (.seq (.block 4 (.seq (sub (cd Tryz.f23) [1,1,1,1,1,1,0,1,0,0,1,1,0,0,0]) (.seq (sub (cd Tryz.f23) [1,1,1,1,1,1,0,1,0,0,1,1,0,0,1,0]) (.seq (sub (cd Tryz.f23) [1,1,1,1,1,1,0,1,0,0,1,1,0,0,1,1,0]) (sub (cd Tryz.f23) [1,1,1,1,1,1,0,1,0,0,1,1,0,0,1,1,1]))))) (sub (cd Tryz.f23) [1,1,1,1,1,1,0,1,0,0,1,1,1]))) from by kernel_rfl]
    refine CodeR.seq (CodeR.ofK (f':=fun mv=>stF6 ns mo qs mv n (outL ns ts mo ts.length n)) (Nat.le_refl _) fun mb=>n18_p0) (CodeR.seq (CodeR.ofK (f':=fun mv=>stF ns mo qs mv n (outL ns ts mo ts.length n)) (Nat.le_refl _) fun mb=>n18c_p0 (by omega)) (CodeR.seq (Ψ1:=PsiK (fun mv=>stF ns mo qs mv n (outL ns ts mo ts.length (n+1))) (n+1) (GrpOK ns ts ts.length)) ?_ (CodeR.ofK (Nat.le_refl _) fun mb=>n24_p0 (inR_nat (by omega)))))
    have hol:=outL_len ns ts mo ts.length n
    cases hg:grp ns ts n ts.length with
    | nil =>
      have e1:outL ns ts mo ts.length (n+1)=outL ns ts mo ts.length n:=by rw [outL_succ,outG,if_pos hg,List.append_nil]
      rw [e1]
      exact CodeR.block (CodeR.seq (CodeR.ofK (f':=fun mv=>stG ns mo qs mv n (outL ns ts mo ts.length n)) (Nat.le_refl _) fun mb=>n19_p0) (CodeR.seq (r20n (by omega) hg) (CodeR.seqx (CodeR.ofK (by omega) fun mb=>n21n_p0) (by simp))))
    | cons y l =>
      have hgl:=grp_len ns ts n ts.length
      rw [hg] at hgl
      have hd:=downI_len (y::l)
      have hmin:(if mo<(((downI (y::l)).length:Nat):Int) then mo else (((downI (y::l)).length:Nat):Int))=((min mo.toNat (y::l).length:Nat):Int):=by
        rw [hd];split <;> omega
      have hle:min mo.toNat (y::l).length≤(downI (y::l)).length:=by rw [hd];omega
      have htk:((downI (y::l)).take (min mo.toNat (y::l).length)).length=min mo.toNat (y::l).length:=by rw [List.length_take];omega
      have hmem:∀ j,∀ x∈(((downI (y::l)).take (min mo.toNat (y::l).length)).take j),0≤x∧x≤1000000:=fun j x hx=>hts x (grp_mem (g:=(n:Int)) (i:=ts.length) (by rw [hg];exact downI_mem.1 (List.mem_of_mem_take (List.mem_of_mem_take hx))))
      have e1:outL ns ts mo ts.length (n+1)=outL ns ts mo ts.length n++[[(n:Int),1,((downI (y::l)).take (min mo.toNat (y::l).length)).sum,0]]:=by
        rw [outL_succ,outG,if_neg (by rw [hg];simp),hg];rfl
      refine CodeR.blockn (CodeR.seq (CodeR.ofK (f':=fun mv=>stG ns mo qs mv n (outL ns ts mo ts.length n)) (Nat.le_refl _) fun mb=>n19_p0) (CodeR.seq (r20c (by omega) hg) (CodeR.seq (CodeR.ofK (f':=fun mv=>stH ns mo qs mv n (outL ns ts mo ts.length n) y l) (Nat.le_refl _) fun mb=>n21_p0) (CodeR.ofK (Nat.le_refl _) fun mb=>n22_p0 (l0:=(downI (y::l)).take (min mo.toNat (y::l).length)) ?_ (by simp) ?_ ?_ ?_ ?_ ?_ ?_ ?_ ?_))))
      · omega
      · rw [hmin];omega
      · rw [hmin,htk];omega
      · rw [hmin,Nat.sub_zero,Int.toNat_natCast,List.drop_zero,List.length_map,Nat.div_self (by rw [hd];simp),Nat.mul_one,List.map_take]
      · unfold small;rw [htk];simp only [List.length_cons] at hgl ⊢;omega
      · intro j
        have:=sum_bd (hmem j)
        have h2:(((downI (y::l)).take (min mo.toNat (y::l).length)).take j).length≤12:=by
          rw [List.length_take,htk];simp only [List.length_cons] at hgl ⊢;omega
        unfold inR
        omega
      · exact ⟨rfl,by omega⟩
      · rw [e1,List.length_append];rfl
      · rw [e1,List.flatten_append,List.map_append];rfl
  · rw [show sub (cd Tryz.f23) [1,1,1,1,1,1,0,1,0,0] = .seq (sub (cd Tryz.f23) [1,1,1,1,1,1,0,1,0,0,0]) (.seq (sub (cd Tryz.f23) [1,1,1,1,1,1,0,1,0,0,1,0]) (sub (cd Tryz.f23) [1,1,1,1,1,1,0,1,0,0,1,1])) from by kernel_rfl]
    exact CodeR.seq (CodeR.ofK (f':=fun mv=>stF6 ns mo qs mv 31 (outL ns ts mo ts.length 31)) (Nat.le_refl _) fun mb=>n18_p0) (CodeR.seqx (CodeR.ofK (Nat.le_refl _) fun mb=>n18c_p1 (by omega)) (by simp))
end KV
end Go.Proofs
end
section
namespace Go.Proofs
open KL Go.RowKit
namespace KV

theorem LoopOK.count{P:Program}{k:Nat}{b:Code}{e:Ex}{R:St}(N:Nat)(S:Nat→St)(hs:∀ i,i<N→CodeOK P k b (S i) .normal (S (i+1)))(hx:CodeOK P k b (S N) e R)(he:e ≠ .normal):LoopOK P k b (S 0) e R:=by
  have key:∀ d i,i+d=N→LoopOK P k b (S i) e R:=by
    intro d
    induction d with
    | zero => intro i hi;obtain rfl:i=N:=by omega
              exact .exit hx he
    | succ d ih=>intro i hi;exact .step (hs i (by omega)) (ih (i+1) (by omega))
  exact key N 0 (by omega)

theorem fl_setf{k i f:Nat}{L:List (List Int)}{x:List Int}{y:Int}(h:uni k L)(hx:L[i]? = some x)(hf:f<k):(L.flatten.map intP).set (i*k+f) (intP y)=((L.set i (x.set f y)).flatten.map intP):=by
  have hi:=(List.getElem?_eq_some_iff.1 hx).1
  have hxl:x.length=k:=h x (List.mem_of_getElem? hx)
  have e:L=L.take i++x::L.drop (i+1):=by
    conv=>lhs;rw [← List.take_append_drop i L]
    congr 1
    rw [List.drop_eq_getElem_cons hi]
    congr 1
    exact (List.getElem?_eq_some_iff.1 hx).2
  have hA:(L.take i).flatten.length=i*k:=by
    rw [fl_len (fun y hy=>h y (List.mem_of_mem_take hy)),List.length_take]
    congr 1;omega
  have hset:L.set i (x.set f y)=L.take i++(x.set f y)::L.drop (i+1):=by
    rw [List.set_eq_take_append_cons_drop,if_pos hi]
  rw [hset,← List.map_set]
  congr 1
  conv=>lhs;rw [e]
  rw [List.flatten_append,List.flatten_cons,List.flatten_append,List.flatten_cons]
  rw [List.set_append_right _ _ (by omega),hA,Nat.add_sub_cancel_left,List.set_append_left _ _ (by omega)]

def rkOf(P:List Int)(v:Int)(j:Nat):Int:=1+(((P.take j).filter fun q=>decide (v<q)).length:Int)
theorem rkOf_zero(P:List Int)(v:Int):rkOf P v 0=1:=by simp [rkOf]
theorem rkOf_succ{P:List Int}{v q:Int}{j:Nat}(h:P[j]? = some q):rkOf P v (j+1)=if v<q then rkOf P v j+1 else rkOf P v j:=by
  unfold rkOf
  rw [List.take_add_one,h,List.filter_append,List.length_append]
  split <;> rename_i h2 <;> simp [h2] <;> omega
theorem rkOf_bd(P:List Int)(v:Int)(j:Nat):1≤rkOf P v j∧rkOf P v j≤1+j:=by
  unfold rkOf
  have:=Nat.le_trans (List.length_filter_le (fun q=>decide (v<q)) (P.take j)) (List.length_take_le j P)
  omega
def qtOf(qs:List Int)(rk:Int):Int:=if rk≤qs.length then qs.getD (rk-1).toNat 0 else 0
abbrev pts3(o:List (List Int)):List Int:=o.map fun x=>x.getD 2 0
def finR(qs P:List Int)(x:List Int):List Int:=[x.getD 0 0,rkOf P (x.getD 2 0) P.length,x.getD 2 0,qtOf qs (rkOf P (x.getD 2 0) P.length)]
def natL(qs:List Int)(o:List (List Int)):List (List Int):=isort (ltK 1) (o.map (finR qs (pts3 o)))
def midL(qs:List Int)(o:List (List Int))(i:Nat):List (List Int):=(o.take i).map (finR qs (pts3 o))++o.drop i
def Pt(P:List Int)(r:List (List Int)):Prop:=r.length=P.length∧∀ (j:Nat) (q:Int),P[j]? = some q→∃ a b d,r[j]? = some [a,b,q,d]
theorem Pt.uni{P:List Int}{r:List (List Int)}(h:Pt P r):uni 4 r:=fun x hx=>by
  obtain ⟨j,hj,rfl⟩:=List.getElem_of_mem hx
  obtain ⟨a,b,d,hr⟩:=h.2 j (P[j]'(by rw [← h.1];exact hj)) (List.getElem?_eq_getElem _)
  rw [List.getElem?_eq_getElem hj] at hr
  rw [Option.some.inj hr];rfl
theorem Pt.set{P:List Int}{r:List (List Int)}{i:Nat}{a b q d:Int}(h:Pt P r)(hq:P[i]? = some q):Pt P (r.set i [a,b,q,d]):=by
  refine ⟨by rw [List.length_set];exact h.1,fun j q' hj => ?_⟩
  have hjl:=(List.getElem?_eq_some_iff.1 hj).1
  have hrl:=h.1
  rw [List.getElem?_set]
  by_cases e:i=j
  · subst e
    rw [hq] at hj;cases hj
    rw [if_pos rfl,if_pos (by omega)]
    exact ⟨a,b,d,rfl⟩
  · rw [if_neg e];exact h.2 j q' hj
def Base(o:List (List Int)):Prop:=∀ x∈o,∃ g s,x=[g,1,s,0]
theorem base_outL(ns ts:List Int)(mo:Int)(N n:Nat):Base (outL ns ts mo N n):=fun x hx=>by
  unfold outL at hx
  obtain ⟨g,hg,hx⟩:=List.mem_flatMap.1 hx
  unfold outG at hx
  split at hx
  · simp at hx
  · simp at hx;exact ⟨_,_,hx⟩
theorem mid_at{qs:List Int}{o:List (List Int)}{i j:Nat}(hi:i≤o.length):(midL qs o i)[j]? = if j<i then (o[j]?).map (finR qs (pts3 o)) else o[j]? := by
  unfold midL
  by_cases h:j<i
  · rw [if_pos h,List.getElem?_append_left (by rw [List.length_map,List.length_take];omega),List.getElem?_map,List.getElem?_take,if_pos h]
  · rw [if_neg h,List.getElem?_append_right (by rw [List.length_map,List.length_take];omega),List.length_map,List.length_take,List.getElem?_drop]
    congr 1;omega
theorem mid_len{qs:List Int}{o:List (List Int)}{i:Nat}(hi:i≤o.length):(midL qs o i).length=o.length:=by
  unfold midL;rw [List.length_append,List.length_map,List.length_take,List.length_drop];omega
theorem mid_pt{qs:List Int}{o:List (List Int)}{i:Nat}(hb:Base o)(hi:i≤o.length):Pt (pts3 o) (midL qs o i):=by
  refine ⟨by rw [mid_len hi,List.length_map],fun j q hj => ?_⟩
  rw [mid_at hi]
  rw [List.getElem?_map] at hj
  cases ho:o[j]? with
  | none=>rw [ho] at hj;cases hj
  | some x =>
    rw [ho] at hj
    obtain ⟨g,s,rfl⟩:=hb x (List.mem_of_getElem? ho)
    simp at hj
    subst hj
    split
    · exact ⟨_,_,_,rfl⟩
    · exact ⟨_,_,_,rfl⟩
theorem mid_zero(qs:List Int)(o:List (List Int)):midL qs o 0=o:=by simp [midL]
theorem mid_end(qs:List Int)(o:List (List Int)):midL qs o o.length=o.map (finR qs (pts3 o)):=by simp [midL]
theorem mid_succ{qs:List Int}{o:List (List Int)}{i:Nat}{x:List Int}(h:o[i]? = some x):midL qs o (i+1)=(midL qs o i).set i (finR qs (pts3 o) x):=by
  have hi:=(List.getElem?_eq_some_iff.1 h).1
  apply List.ext_getElem?
  intro j
  rw [mid_at (by omega),List.getElem?_set,mid_len (by omega),mid_at (by omega)]
  by_cases e:i=j
  · subst e
    rw [if_pos (by omega),if_pos rfl,if_pos hi,h];rfl
  · rw [if_neg e]
    by_cases e2:j<i
    · rw [if_pos (by omega),if_pos e2]
    · rw [if_neg (by omega),if_neg e2]

section
variable {qs:List Int} {o:List (List Int)}
theorem nat_inner(hb:Base o)(ho:o.length≤31){i:Nat}{g s:Int}(hx:o[i]? = some [g,1,s,0]) :
    LoopOK Tryz.prog 0 (sub (cd Tryz.f23) [1,1,1,1,1,1,1,0,1,0,0,1,1,0,0,1,0,1,0,0]) (nat_S3 qs o i (midL qs o i) 0 (midL qs o i).length ((midL qs o i).flatten.map intP)) (.exit 7)
      (nat_S3 qs o i (midL qs o i) o.length ((midL qs o i).set i [g,rkOf (pts3 o) s o.length,s,0]).length (((midL qs o i).set i [g,rkOf (pts3 o) s o.length,s,0]).flatten.map intP)):=by
  have hi:=(List.getElem?_eq_some_iff.1 hx).1
  have hml:(midL qs o i).length=o.length:=mid_len (by omega)
  have hpt:Pt (pts3 o) (midL qs o i):=mid_pt hb (by omega)
  have hpi:(pts3 o)[i]? = some s:=by rw [List.getElem?_map,hx];rfl
  have hmi:(midL qs o i)[i]? = some [g,1,s,0]:=by rw [mid_at (by omega),if_neg (by omega),hx]
  have e0:(midL qs o i).set i [g,rkOf (pts3 o) s 0,s,0]=midL qs o i:=by
    rw [rkOf_zero]
    obtain ⟨h1,h2⟩:=List.getElem?_eq_some_iff.1 hmi
    rw [← h2];exact List.set_getElem_self h1
  have:=LoopOK.count (P:=Tryz.prog) (k:=0) (b:=sub (cd Tryz.f23) [1,1,1,1,1,1,1,0,1,0,0,1,1,0,0,1,0,1,0,0]) (e := .exit 7) (R:=nat_S3 qs o i (midL qs o i) o.length ((midL qs o i).set i [g,rkOf (pts3 o) s o.length,s,0]).length (((midL qs o i).set i [g,rkOf (pts3 o) s o.length,s,0]).flatten.map intP)) o.length
    (fun j=>nat_S3 qs o i (midL qs o i) j ((midL qs o i).set i [g,rkOf (pts3 o) s j,s,0]).length (((midL qs o i).set i [g,rkOf (pts3 o) s j,s,0]).flatten.map intP)) (fun j hj => ?_) (nat_L3_p2 (by rw [hml];omega)) (by simp)
  · rw [e0] at this;exact this
  · have hr:Pt (pts3 o) ((midL qs o i).set i [g,rkOf (pts3 o) s j,s,0]):=hpt.set hpi
    obtain ⟨q,hq⟩:∃ q,(pts3 o)[j]? = some q:=⟨_,List.getElem?_eq_getElem (by rw [List.length_map];omega)⟩
    obtain ⟨a,b,d,hrj⟩:=hr.2 j q hq
    have hri:((midL qs o i).set i [g,rkOf (pts3 o) s j,s,0])[i]? = some [g,rkOf (pts3 o) s j,s,0]:=by
      rw [List.getElem?_set,if_pos rfl,if_pos (by omega)]
    have hbd:=rkOf_bd (pts3 o) s j
    have hsucc:=rkOf_succ (v:=s) hq
    by_cases hlt:s<q
    · rw [if_pos hlt] at hsucc
      refine nat_L3_p0 (r':=(midL qs o i).set i [g,rkOf (pts3 o) s (j+1),s,0]) (by rw [hml];omega) hrj hr.uni hri hlt (by unfold inR;omega) ?_ (inR_nat (by omega)) rfl (by rw [List.length_set,List.length_set]) ?_
      · rw [List.length_map,fl_len hr.uni,List.length_set,hml];omega
      · rw [fl_setf hr.uni hri (by decide),List.set_set,hsucc];rfl
    · rw [if_neg hlt] at hsucc
      rw [hsucc]
      exact nat_L3_p1 (by rw [hml];omega) hrj hr.uni hri (by omega) (inR_nat (by omega)) rfl

theorem nat_outer(hb:Base o)(ho:o.length≤31)(hqs:qs.length≤31):LoopOK Tryz.prog 0 (sub (cd Tryz.f23) [1,1,1,1,1,1,1,0,1,0,0]) (nat_S2 qs o 0 o.length (o.flatten.map intP)) (.exit 5)
    (nat_S2 qs o o.length (o.map (finR qs (pts3 o))).length ((o.map (finR qs (pts3 o))).flatten.map intP)):=by
  have:=LoopOK.count (P:=Tryz.prog) (k:=0) (b:=sub (cd Tryz.f23) [1,1,1,1,1,1,1,0,1,0,0]) (e := .exit 5) (R:=nat_S2 qs o o.length (o.map (finR qs (pts3 o))).length ((o.map (finR qs (pts3 o))).flatten.map intP)) o.length
    (fun i=>nat_S2 qs o i (midL qs o i).length ((midL qs o i).flatten.map intP)) (fun i hi => ?_) (by rw [mid_end];exact nat_L2_p2 (by omega)) (by simp)
  · rw [mid_zero] at this;exact this
  · obtain ⟨g,s,hgs⟩:=hb o[i] (List.getElem_mem hi)
    have hx:o[i]? = some [g,1,s,0]:=by rw [List.getElem?_eq_getElem hi,hgs]
    have hL:=nat_inner (qs:=qs) hb ho hx
    have hml:(midL qs o i).length=o.length:=mid_len (by omega)
    have hpt:Pt (pts3 o) (midL qs o i):=mid_pt hb (by omega)
    have hpi:(pts3 o)[i]? = some s:=by rw [List.getElem?_map,hx];rfl
    have hr:Pt (pts3 o) ((midL qs o i).set i [g,rkOf (pts3 o) s o.length,s,0]):=hpt.set hpi
    have hri:((midL qs o i).set i [g,rkOf (pts3 o) s o.length,s,0])[i]? = some [g,rkOf (pts3 o) s o.length,s,0]:=by
      rw [List.getElem?_set,if_pos rfl,if_pos (by omega)]
    have hbd:=rkOf_bd (pts3 o) s o.length
    have hpl:(pts3 o).length=o.length:=List.length_map _
    have efin:midL qs o (i+1)=(midL qs o i).set i [g,rkOf (pts3 o) s o.length,s,qtOf qs (rkOf (pts3 o) s o.length)]:=by
      rw [mid_succ hx];unfold finR;rw [hpl];rfl
    by_cases hle:rkOf (pts3 o) s o.length≤(qs.length:Int)
    · have hq:qs[(rkOf (pts3 o) s o.length-1).toNat]? = some (qtOf qs (rkOf (pts3 o) s o.length)):=by
        unfold qtOf
        rw [if_pos hle,List.getD_eq_getElem?_getD,List.getElem?_eq_getElem (by omega)];rfl
      refine nat_L2_p0 (by omega) hL hri hr.uni hle (by unfold inR;omega) hq (by omega) ?_ (inR_nat (by omega)) rfl (by rw [mid_len (by omega),List.length_set,hml]) ?_
      · rw [List.length_map,fl_len hr.uni,List.length_set,hml];omega
      · rw [fl_setf hr.uni hri (by decide),List.set_set,efin];rfl
    · have hq:qtOf qs (rkOf (pts3 o) s o.length)=0:=by unfold qtOf;rw [if_neg hle]
      rw [hq] at efin
      refine nat_L2_p1 (by omega) hL hri hr.uni (by omega) (inR_nat (by omega)) rfl (by rw [mid_len (by omega),List.length_set,hml]) (by rw [efin])
end

def nationsM(c:KL.Cup)(ns:List Int)(mo:Int)(qs:List Int):List (List Int):=natL qs (outL ns (KL.totalsM c) mo (KL.totalsM c).length 31)
def natE(c:KL.Cup)(ns:List Int)(mo:Int)(qs:List Int):Int :=
  if KL.checkP c≠0 then KL.checkP c else if (ns.length:Int)≠c.sk∨within (qs.length:Int) 1 31=false then 2 else
  if (ns.all fun x=>within x 0 30)=false∨within mo 1 12=false∨(qs.all fun x=>within x 0 20)=false then 3 else if KL.fallsB qs=false then 4 else 0
theorem nodup_le:∀ {S T:List Int},S.Nodup→(∀ g∈S,g∈T)→S.length≤T.length
  | [],_,_,_=>Nat.zero_le _
  | a::S,T,h,hs=>by
    obtain ⟨h1,h2⟩:=List.nodup_cons.1 h
    have ha:=hs a (List.mem_cons_self ..)
    have:=nodup_le (T:=T.erase a) h2 (fun g hg=>(List.mem_erase_of_ne (fun e=>h1 (by rw [← e];exact hg))).2 (hs g (List.mem_cons_of_mem _ hg)))
    rw [List.length_erase_of_mem ha] at this
    have:0<T.length:=List.length_pos_of_mem ha
    rw [List.length_cons]
    omega
theorem outL_few(ns ts:List Int)(mo:Int)(N n:Nat)(h:(ns.zip ts).length≤12):(outL ns ts mo N n).length≤12:=by
  have key:∀ n,∃ S:List Int,S.Nodup∧S.length=(outL ns ts mo N n).length∧(∀ g∈S,g∈(ns.zip ts).map (·.1))∧∀ g∈S,g<n:=by
    intro n
    induction n with
    | zero=>exact ⟨[],.nil,rfl,by simp,by simp⟩
    | succ n ih =>
      obtain ⟨S,h1,h2,h3,h4⟩:=ih
      rw [outL_succ]
      unfold outG
      split
      · exact ⟨S,h1,by simpa using h2,h3,fun g hg=>by have:=h4 g hg;omega⟩
      · rename_i hg
        refine ⟨(n:Int)::S,List.nodup_cons.2 ⟨fun hin=>by have:=h4 _ hin;omega,h1⟩,by simp [h2],fun g hg' => ?_,fun g hg' => ?_⟩
        · rcases List.mem_cons.1 hg' with rfl | hg'
          · obtain ⟨x,hx⟩:=List.exists_mem_of_ne_nil _ hg
            unfold grp at hx
            obtain ⟨p,hp,hx⟩:=List.mem_filterMap.1 hx
            split at hx
            · rename_i he
              exact List.mem_map.2 ⟨p,List.mem_of_mem_take hp,he⟩
            · cases hx
          · exact h3 g hg'
        · rcases List.mem_cons.1 hg' with rfl | hg'
          · omega
          · have:=h4 g hg';omega
  obtain ⟨S,h1,h2,h3,_⟩:=key n
  rw [← h2]
  have:=nodup_le h1 h3
  rw [List.length_map] at this
  omega
theorem nat_main{c:KL.Cup}{ns:List Int}{mo:Int}{qs:List Int}(hV:KL.Valid c)(hl:(ns.length:Int)=c.sk)(hns:∀ k∈ns,0≤k∧k≤30)(hmo:1≤mo∧mo≤12)(hqs:qs.length≤31)(htl:(KL.totalsM c).length=c.sk.toNat)(hts:∀ x∈KL.totalsM c,0≤x∧x≤1000000) :
    CodeOK Tryz.prog 0 (sub (cd Tryz.f23) [1,1,1]) (stT c ns mo qs) .ret ⟨fr 161 [(8,(.p (.sl (nationsM c ns mo qs).length ((nationsM c ns mo qs).flatten.map intP)))),(9,(.p (intP 0)))],[]⟩:=by
  have s1:=hV.sk1
  have s2:=hV.sk2
  refine CodeR.ok (by kernel_rfl) ?_
  rw [show sub (cd Tryz.f23) [1,1,1] = .seq (sub (cd Tryz.f23) [1,1,1,0]) (.seq (.seq (sub (cd Tryz.f23) [1,1,1,1,0,0]) (sub (cd Tryz.f23) [1,1,1,1,0,1])) (.seq (sub (cd Tryz.f23) [1,1,1,1,1,0]) (.seq (.seq (sub (cd Tryz.f23) [1,1,1,1,1,1,0,0]) (sub (cd Tryz.f23) [1,1,1,1,1,1,0,1])) (sub (cd Tryz.f23) [1,1,1,1,1,1,1])))) from by kernel_rfl]
  have htl':ns.length=(KL.totalsM c).length:=by omega
  have hw:∀ k∈ns,(Lit.int .i64 k).wf=true:=fun k hk=>by
    have:=hns k hk
    have h:=wf_int (n:=k.toNat) (by omega)
    rwa [Int.toNat_of_nonneg this.1] at h
  refine CodeR.seq (r10 (ts:=KL.totalsM c)) (CodeR.seq (CodeR.seq (CodeR.ofM (f':=fun mv=>stB ns mo qs mv (KL.totalsM c) 0) fun mb=>n11_p0 hV) (nat_loop1 htl' hw (by omega))) (CodeR.seq (CodeR.ofM (f':=fun mv=>⟨fr 161 [(1,(.p (intsP ns))),(2,(.p (intP mo))),(3,(.p (intsP qs))),(12,(.p mv)),(15,(.p nilS))],[]⟩) fun mb=>n16_p0) (CodeR.seq (CodeR.seq ?_ (nat_loop2 (qs:=qs) htl' (by omega) hmo hts)) ?_)))
  · refine (CodeR.ofM (f':=fun mv=>stF ns mo qs mv 0 []) fun mb=>n17_p0).mono (fun _ _ h=>h) (fun st R h => ?_)
    obtain ⟨mb,es,cl,L,h1,rfl,h3,h4⟩:=h
    exact ⟨mb,es,cl,L,h1,by simp [mapR],fun e he _=>by simp [mapR];exact .inr ⟨e,he,rfl⟩,h3,h4⟩
  · refine CodeR.of fun st R h=>⟨_,rfl,?_⟩
    obtain ⟨mb,es,cl,L,rfl,_⟩:=h
    have hol:=outL_len ns (KL.totalsM c) mo (KL.totalsM c).length 31
    have hb:=base_outL ns (KL.totalsM c) mo (KL.totalsM c).length 31
    have hlen:(outL ns (KL.totalsM c) mo (KL.totalsM c).length 31).length≤12:=outL_few _ _ _ _ _ (by rw [List.length_zip];omega)
    refine CodeOK.pre (g:=⟨[1,2,12,85],[0],[],[]⟩) (st1:=⟨fr 161 [(3,(.p (intsP qs))),(15,(.own 0))],[some (.row 40 (outL ns (KL.totalsM c) mo (KL.totalsM c).length 31).length ((outL ns (KL.totalsM c) mo (KL.totalsM c).length 31).flatten.map intP))]⟩) (by kernel_rfl) ?_
    exact n25_p0 (nat_outer hb hol hqs) (fun x hx=>by
      obtain ⟨y,hy,rfl⟩:=List.mem_map.1 hx
      rfl) (by rw [List.length_map];omega)
end KV
end Go.Proofs
end
namespace Go.Proofs
namespace KV
section
open KL
theorem zL6q0:((0:Int) != (0:Int))=false:=by first | decide | simp
theorem zL6q1:((0:Int) == (0:Int))=true:=by first | decide | simp
theorem zL6q2:((3:Int) == (3:Int))=true:=by first | decide | simp
theorem zL6q3:((1:Int) == (1:Int))=true:=by first | decide | simp
abbrev threeC:Cup:=⟨3,3,2,[10,6,4],[[1,2,3],[3,1,1]]⟩
abbrev twoC:Cup:=⟨2,4,4,[10,4],[[1,2],[1,2],[1,2]]⟩
theorem three_p0{base:Nat}:FV Tryz.prog 86 [] base (.p (.agg [(intP 3),(intP 3),(intP 2),(.sl 3 [(intP 10),(intP 6),(intP 4)]),(.sl 2 [(.sl 3 [(intP 1),(intP 2),(intP 3)]),(.sl 3 [(intP 3),(intP 1),(intP 1)])])])) []:=by
  exact FV.frz (FMM.fin (k:=0) (g:=⟨[],[],[1,4],[]⟩) rfl Tryz.func86 rfl (o:=[]) (l:=[]) (by kernel_rfl) (gn)) (by kernel_rfl)
theorem two_p0{base:Nat}:FV Tryz.prog 87 [] base (.p (.agg [(intP 2),(intP 4),(intP 4),(.sl 2 [(intP 10),(intP 4)]),(.sl 3 [(.sl 2 [(intP 1),(intP 2)]),(.sl 2 [(intP 1),(intP 2)]),(.sl 2 [(intP 1),(intP 2)])])])) []:=by
  exact FV.frz (FMM.fin (k:=0) (g:=⟨[],[],[1,5],[]⟩) rfl Tryz.func87 rfl (o:=[]) (l:=[]) (by kernel_rfl) (gn)) (by kernel_rfl)
theorem awake_p0(h34_0:∀ base:Nat,FV Tryz.prog 35 [(.p (.agg [(intP 3),(intP 3),(intP 2),(.sl 3 [(intP 10),(intP 6),(intP 4)]),(.sl 2 [(.sl 3 [(intP 1),(intP 2),(intP 3)]),(.sl 3 [(intP 3),(intP 1),(intP 1)])])]))] base (.tup [(.p (.sl 3 [(intP 1),(intP 1),(intP 14),(intP 1),(intP 0),(intP 2),(intP 14),(intP 1),(intP 2),(intP 3),(intP 12),(intP 1)])),(.p (intP 0))]) [])(h37_1:∀ base:Nat,FV Tryz.prog 38 [(.p (.agg [(intP 3),(intP 3),(intP 2),(.sl 3 [(intP 10),(intP 6),(intP 4)]),(.sl 2 [(.sl 3 [(intP 1),(intP 2),(intP 3)]),(.sl 3 [(intP 3),(intP 1),(intP 1)])])]))] base (.tup [(.p (.sl 3 [(intP 0),(intP 1),(intP 2)])),(.p (intP 0))]) [])(h38_2:∀ base:Nat,FV Tryz.prog 39 [(.p (.agg [(intP 3),(intP 3),(intP 2),(.sl 3 [(intP 10),(intP 6),(intP 4)]),(.sl 2 [(.sl 3 [(intP 1),(intP 2),(intP 3)]),(.sl 3 [(intP 3),(intP 1),(intP 1)])])]))] base (.tup [(.p (.sl 0 [])),(.p (intP 0))]) [])(h55_3:∀ base:Nat,FV Tryz.prog 56 [(.p (.agg [(intP 3),(intP 3),(intP 2),(.sl 3 [(intP 10),(intP 6),(intP 4)]),(.sl 2 [(.sl 3 [(intP 1),(intP 2),(intP 3)]),(.sl 3 [(intP 3),(intP 1),(intP 1)])])])),(.p (intP 1))] base (.tup [(.p (intP 3)),(.p (.sl 3 [(intP 1),(intP 0),(intP 2)])),(.p (intP 0))]) [])(h39_4:∀ base:Nat,FV Tryz.prog 40 [(.p (.sl 3 [(intP 1),(intP 1),(intP 14),(intP 1),(intP 0),(intP 2),(intP 14),(intP 1),(intP 2),(intP 3),(intP 12),(intP 1)])),(.p (.sl 3 [(intP 1),(intP 1),(intP 14),(intP 1),(intP 0),(intP 2),(intP 14),(intP 1),(intP 2),(intP 3),(intP 12),(intP 1)]))] base (.p (blP true)) [])(h25_5:∀ base:Nat,FV Tryz.prog 26 [(.p (.sl 3 [(intP 0),(intP 1),(intP 2)])),(.p (.sl 3 [(intP 0),(intP 1),(intP 2)]))] base (.p (blP true)) [])(h73_6:∀ base:Nat,FV Tryz.prog 74 [(.p (.agg [(intP 2),(intP 4),(intP 4),(.sl 2 [(intP 10),(intP 4)]),(.sl 3 [(.sl 2 [(intP 1),(intP 2)]),(.sl 2 [(intP 1),(intP 2)]),(.sl 2 [(intP 1),(intP 2)])])]))] base (.tup [(.p (intP 3)),(.p (intP 0)),(.p (intP 0))]) [])(h56_7:∀ base:Nat,FV Tryz.prog 57 [(.p (.agg [(intP 3),(intP 3),(intP 2),(.sl 3 [(intP 10),(intP 6),(intP 4)]),(.sl 2 [(.sl 3 [(intP 1),(intP 2),(intP 3)]),(.sl 3 [(intP 3),(intP 1),(intP 1)])])])),(.p (intP 2))] base (.tup [(.p (.sl 3 [(intP 2),(intP 3),(intP 1)])),(.p (intP 0))]) [])(h22_8:∀ base:Nat,FV Tryz.prog 23 [(.p (.agg [(intP 3),(intP 3),(intP 2),(.sl 3 [(intP 10),(intP 6),(intP 4)]),(.sl 2 [(.sl 3 [(intP 1),(intP 2),(intP 3)]),(.sl 3 [(intP 3),(intP 1),(intP 1)])])])),(.p (.sl 3 [(intP 5),(intP 5),(intP 9)])),(.p (intP 1)),(.p (.sl 2 [(intP 4),(intP 3)]))] base (.tup [(.p (.sl 2 [(intP 5),(intP 1),(intP 14),(intP 4),(intP 9),(intP 2),(intP 12),(intP 3)])),(.p (intP 0))]) [])(h87_9:∀ base:Nat,FV Tryz.prog 90 [(.p (.sl 2 [(intP 5),(intP 1),(intP 14),(intP 4),(intP 9),(intP 2),(intP 12),(intP 3)])),(.p (.sl 2 [(intP 5),(intP 1),(intP 14),(intP 4),(intP 9),(intP 2),(intP 12),(intP 3)]))] base (.p (blP true)) []){base:Nat}:FV Tryz.prog 20 [] base (.p (blP true)) []:=by
  exact FV.fin Tryz.func20 rfl (o:=[.c (.p (.agg [(intP 3),(intP 3),(intP 2),(.sl 3 [(intP 10),(intP 6),(intP 4)]),(.sl 2 [(.sl 3 [(intP 1),(intP 2),(intP 3)]),(.sl 3 [(intP 3),(intP 1),(intP 1)])])])) [],.c (.tup [(.p (.sl 3 [(intP 1),(intP 1),(intP 14),(intP 1),(intP 0),(intP 2),(intP 14),(intP 1),(intP 2),(intP 3),(intP 12),(intP 1)])),(.p (intP 0))]) [],.c (.p (.agg [(intP 3),(intP 3),(intP 2),(.sl 3 [(intP 10),(intP 6),(intP 4)]),(.sl 2 [(.sl 3 [(intP 1),(intP 2),(intP 3)]),(.sl 3 [(intP 3),(intP 1),(intP 1)])])])) [],.c (.tup [(.p (.sl 3 [(intP 0),(intP 1),(intP 2)])),(.p (intP 0))]) [],.c (.p (.agg [(intP 3),(intP 3),(intP 2),(.sl 3 [(intP 10),(intP 6),(intP 4)]),(.sl 2 [(.sl 3 [(intP 1),(intP 2),(intP 3)]),(.sl 3 [(intP 3),(intP 1),(intP 1)])])])) [],.c (.tup [(.p (.sl 0 [])),(.p (intP 0))]) [],.c (.p (.agg [(intP 3),(intP 3),(intP 2),(.sl 3 [(intP 10),(intP 6),(intP 4)]),(.sl 2 [(.sl 3 [(intP 1),(intP 2),(intP 3)]),(.sl 3 [(intP 3),(intP 1),(intP 1)])])])) [],.c (.tup [(.p (intP 3)),(.p (.sl 3 [(intP 1),(intP 0),(intP 2)])),(.p (intP 0))]) [],bF,bF,bF,bF,bF,bF,bF,bF,bF,bF,bF,bF,bF,bF,bF,.c (.p (blP true)) [],bF,bF,bF,bF,bF,.c (.p (blP true)) [],bF,bF,bF,bF,bF,bF,bF,bF,bF,bF,.c (.p (.agg [(intP 2),(intP 4),(intP 4),(.sl 2 [(intP 10),(intP 4)]),(.sl 3 [(.sl 2 [(intP 1),(intP 2)]),(.sl 2 [(intP 1),(intP 2)]),(.sl 2 [(intP 1),(intP 2)])])])) [],.c (.tup [(.p (intP 3)),(.p (intP 0)),(.p (intP 0))]) [],.c (.p (.agg [(intP 3),(intP 3),(intP 2),(.sl 3 [(intP 10),(intP 6),(intP 4)]),(.sl 2 [(.sl 3 [(intP 1),(intP 2),(intP 3)]),(.sl 3 [(intP 3),(intP 1),(intP 1)])])])) [],.c (.tup [(.p (.sl 3 [(intP 2),(intP 3),(intP 1)])),(.p (intP 0))]) [],.c (.p (.agg [(intP 3),(intP 3),(intP 2),(.sl 3 [(intP 10),(intP 6),(intP 4)]),(.sl 2 [(.sl 3 [(intP 1),(intP 2),(intP 3)]),(.sl 3 [(intP 3),(intP 1),(intP 1)])])])) [],.c (.tup [(.p (.sl 2 [(intP 5),(intP 1),(intP 14),(intP 4),(intP 9),(intP 2),(intP 12),(intP 3)])),(.p (intP 0))]) [(2,.dead),(3,.dead)],bT,bT,bT,bT,bT,bT,bT,bT,bT,bT,bT,bT,bT,bT,bT,bT,bT,bT,bT,.x (intP 1),bT,bT,bT,bT,bT,bT,bT,.c (.p (blP true)) [],bT]) (l:=[_,FC Tryz.prog 90 [(.p (.sl 2 [(intP 5),(intP 1),(intP 14),(intP 4),(intP 9),(intP 2),(intP 12),(intP 3)])),(.own 4)] [(4,(.row 40 2 [(intP 5),(intP 1),(intP 14),(intP 4),(intP 9),(intP 2),(intP 12),(intP 3)]))] 5 (.p (blP true)) [],_,_,_,_,_,_,_,[(intP 2),(intP 3),(intP 1)][2]? = some (intP 1),_,0≤(2:Int)∧(2:Int)<(3:Int)∧2<[(intP 2),(intP 3),(intP 1)].length,_,_,_,_,_,_,_,_,_,_,_,_,_,_,_,_,_,_,FC Tryz.prog 23 [(.p (.agg [(intP 3),(intP 3),(intP 2),(.sl 3 [(intP 10),(intP 6),(intP 4)]),(.sl 2 [(.sl 3 [(intP 1),(intP 2),(intP 3)]),(.sl 3 [(intP 3),(intP 1),(intP 1)])])])),(.own 2),(.p (intP 1)),(.own 3)] [(2,(.row 3 3 [(intP 5),(intP 5),(intP 9)])),(3,(.row 3 2 [(intP 4),(intP 3)]))] 4 (.tup [(.p (.sl 2 [(intP 5),(intP 1),(intP 14),(intP 4),(intP 9),(intP 2),(intP 12),(intP 3)])),(.p (intP 0))]) [(2,.dead),(3,.dead)],FC Tryz.prog 86 [] [] 2 (.p (.agg [(intP 3),(intP 3),(intP 2),(.sl 3 [(intP 10),(intP 6),(intP 4)]),(.sl 2 [(.sl 3 [(intP 1),(intP 2),(intP 3)]),(.sl 3 [(intP 3),(intP 1),(intP 1)])])])) [],FC Tryz.prog 57 [(.p (.agg [(intP 3),(intP 3),(intP 2),(.sl 3 [(intP 10),(intP 6),(intP 4)]),(.sl 2 [(.sl 3 [(intP 1),(intP 2),(intP 3)]),(.sl 3 [(intP 3),(intP 1),(intP 1)])])])),(.p (intP 2))] [] 2 (.tup [(.p (.sl 3 [(intP 2),(intP 3),(intP 1)])),(.p (intP 0))]) [],FC Tryz.prog 86 [] [] 2 (.p (.agg [(intP 3),(intP 3),(intP 2),(.sl 3 [(intP 10),(intP 6),(intP 4)]),(.sl 2 [(.sl 3 [(intP 1),(intP 2),(intP 3)]),(.sl 3 [(intP 3),(intP 1),(intP 1)])])])) [],FC Tryz.prog 74 [(.p (.agg [(intP 2),(intP 4),(intP 4),(.sl 2 [(intP 10),(intP 4)]),(.sl 3 [(.sl 2 [(intP 1),(intP 2)]),(.sl 2 [(intP 1),(intP 2)]),(.sl 2 [(intP 1),(intP 2)])])]))] [] 2 (.tup [(.p (intP 3)),(.p (intP 0)),(.p (intP 0))]) [],FC Tryz.prog 87 [] [] 2 (.p (.agg [(intP 2),(intP 4),(intP 4),(.sl 2 [(intP 10),(intP 4)]),(.sl 3 [(.sl 2 [(intP 1),(intP 2)]),(.sl 2 [(intP 1),(intP 2)]),(.sl 2 [(intP 1),(intP 2)])])])) [],((3:Int) != (3:Int))=false,_,_,_,false=false,false=false,false=false,false=false,false=false,false=false,FC Tryz.prog 26 [(.p (.sl 3 [(intP 0),(intP 1),(intP 2)])),(.own 1)] [(1,(.row 3 3 [(intP 0),(intP 1),(intP 2)]))] 2 (.p (blP true)) [],false=false,false=false,false=false,_,_,FC Tryz.prog 40 [(.p (.sl 3 [(intP 1),(intP 1),(intP 14),(intP 1),(intP 0),(intP 2),(intP 14),(intP 1),(intP 2),(intP 3),(intP 12),(intP 1)])),(.own 0)] [(0,(.row 61 3 [(intP 1),(intP 1),(intP 14),(intP 1),(intP 0),(intP 2),(intP 14),(intP 1),(intP 2),(intP 3),(intP 12),(intP 1)]))] 1 (.p (blP true)) [],_,_,_,_,_,_,_,_,_,_,_,_,_,_,_,FC Tryz.prog 56 [(.p (.agg [(intP 3),(intP 3),(intP 2),(.sl 3 [(intP 10),(intP 6),(intP 4)]),(.sl 2 [(.sl 3 [(intP 1),(intP 2),(intP 3)]),(.sl 3 [(intP 3),(intP 1),(intP 1)])])])),(.p (intP 1))] [] 0 (.tup [(.p (intP 3)),(.p (.sl 3 [(intP 1),(intP 0),(intP 2)])),(.p (intP 0))]) [],FC Tryz.prog 86 [] [] 0 (.p (.agg [(intP 3),(intP 3),(intP 2),(.sl 3 [(intP 10),(intP 6),(intP 4)]),(.sl 2 [(.sl 3 [(intP 1),(intP 2),(intP 3)]),(.sl 3 [(intP 3),(intP 1),(intP 1)])])])) [],FC Tryz.prog 39 [(.p (.agg [(intP 3),(intP 3),(intP 2),(.sl 3 [(intP 10),(intP 6),(intP 4)]),(.sl 2 [(.sl 3 [(intP 1),(intP 2),(intP 3)]),(.sl 3 [(intP 3),(intP 1),(intP 1)])])]))] [] 0 (.tup [(.p (.sl 0 [])),(.p (intP 0))]) [],FC Tryz.prog 86 [] [] 0 (.p (.agg [(intP 3),(intP 3),(intP 2),(.sl 3 [(intP 10),(intP 6),(intP 4)]),(.sl 2 [(.sl 3 [(intP 1),(intP 2),(intP 3)]),(.sl 3 [(intP 3),(intP 1),(intP 1)])])])) [],FC Tryz.prog 38 [(.p (.agg [(intP 3),(intP 3),(intP 2),(.sl 3 [(intP 10),(intP 6),(intP 4)]),(.sl 2 [(.sl 3 [(intP 1),(intP 2),(intP 3)]),(.sl 3 [(intP 3),(intP 1),(intP 1)])])]))] [] 0 (.tup [(.p (.sl 3 [(intP 0),(intP 1),(intP 2)])),(.p (intP 0))]) [],FC Tryz.prog 86 [] [] 0 (.p (.agg [(intP 3),(intP 3),(intP 2),(.sl 3 [(intP 10),(intP 6),(intP 4)]),(.sl 2 [(.sl 3 [(intP 1),(intP 2),(intP 3)]),(.sl 3 [(intP 3),(intP 1),(intP 1)])])])) [],FC Tryz.prog 35 [(.p (.agg [(intP 3),(intP 3),(intP 2),(.sl 3 [(intP 10),(intP 6),(intP 4)]),(.sl 2 [(.sl 3 [(intP 1),(intP 2),(intP 3)]),(.sl 3 [(intP 3),(intP 1),(intP 1)])])]))] [] 0 (.tup [(.p (.sl 3 [(intP 1),(intP 1),(intP 14),(intP 1),(intP 0),(intP 2),(intP 14),(intP 1),(intP 2),(intP 3),(intP 12),(intP 1)])),(.p (intP 0))]) [],FC Tryz.prog 86 [] [] 0 (.p (.agg [(intP 3),(intP 3),(intP 2),(.sl 3 [(intP 10),(intP 6),(intP 4)]),(.sl 2 [(.sl 3 [(intP 1),(intP 2),(intP 3)]),(.sl 3 [(intP 3),(intP 1),(intP 1)])])])) []]) (by kernel_rfl) (gc zL6q3 (gc (fv (h87_9 _)) (gc zL6q3 (gc zL6q3 (gc zL6q3 (gc zL6q3 (gc zL6q3 (gc zL6q2 (gc zL6q2 (gc rfl (gc zL6q2 (gc (by first | decide | simp) (gc zL6q2 (gc zL6q2 (gc zL6q1 (gc zL6q1 (gc zL6q1 (gc zL6q1 (gc zL6q2 (gc zL6q2 (gc zL6q2 (gc zL6q1 (gc zL6q1 (gc zL6q1 (gc zL6q1 (gc zL6q1 (gc zL6q1 (gc zL6q1 (gc zL6q1 (gc zL6q1 (gc (FV.close (ids:=[2,3]) (args':=[(.p (.agg [(intP 3),(intP 3),(intP 2),(.sl 3 [(intP 10),(intP 6),(intP 4)]),(.sl 2 [(.sl 3 [(intP 1),(intP 2),(intP 3)]),(.sl 3 [(intP 3),(intP 1),(intP 1)])])])),(.p (.sl 3 [(intP 5),(intP 5),(intP 9)])),(.p (intP 1)),(.p (.sl 2 [(intP 4),(intP 3)]))]) (h22_8 _) (by kernel_rfl)) (gc (FV.fc three_p0 (by kernel_rfl)) (gc (FV.fc (h56_7 _) rfl) (gc (FV.fc three_p0 (by kernel_rfl)) (gc (FV.fc (h73_6 _) rfl) (gc (FV.fc two_p0 (by kernel_rfl)) (gc (by first | decide | simp) (gc zL6q0 (gc zL6q0 (gc zL6q0 (gc rfl (gc rfl (gc rfl (gc rfl (gc rfl (gc rfl (gc (fv (h25_5 _)) (gc rfl (gc rfl (gc rfl (gc zL6q0 (gc zL6q0 (gc (fv (h39_4 _)) (gc zL6q0 (gc zL6q0 (gc zL6q0 (gc zL6q0 (gc zL6q0 (gc zL6q0 (gc zL6q0 (gc zL6q0 (gc zL6q0 (gc zL6q0 (gc zL6q0 (gc zL6q0 (gc zL6q0 (gc zL6q0 (gc zL6q0 (gc (FV.fc (h55_3 _) rfl) (gc (FV.fc three_p0 (by kernel_rfl)) (gc (FV.fc (h38_2 _) rfl) (gc (FV.fc three_p0 (by kernel_rfl)) (gc (FV.fc (h37_1 _) rfl) (gc (FV.fc three_p0 (by kernel_rfl)) (gc (FV.fc (h34_0 _) rfl) (gc (FV.fc three_p0 (by kernel_rfl)) gn))))))))))))))))))))))))))))))))))))))))))))))))))))))))))))))))))))))))))))
end
end KV
end Go.Proofs
section
namespace Go.Proofs
namespace KL
def insI(x:Int):List Int→List Int
  | []=>[x]
  | y::r=>if x≤y then x::y::r else y::insI x r
def sortI:List Int→List Int
  | []=>[]
  | x::r=>insI x (sortI r)
theorem insI_perm(x:Int):∀ l,(insI x l).Perm (x::l)
  | [] => .refl _
  | y::r=>by
    unfold insI
    split
    · exact .refl _
    · exact ((insI_perm x r).cons y).trans (List.Perm.swap x y r)
theorem sortI_perm:∀ l,(sortI l).Perm l
  | [] => .refl _
  | x::r=>(insI_perm x _).trans ((sortI_perm r).cons x)
theorem insI_sorted(x:Int):∀ l,l.Pairwise (· ≤ ·)→(insI x l).Pairwise (· ≤ ·)
  | [],_=>by simp [insI]
  | y::r,h=>by
    obtain ⟨h1,h2⟩:=List.pairwise_cons.1 h
    unfold insI
    split
    · rename_i hx
      exact List.pairwise_cons.2 ⟨fun z hz=>by
        rcases List.mem_cons.1 hz with rfl | hz
        · exact hx
        · have:=h1 z hz;omega,h⟩
    · rename_i hx
      refine List.pairwise_cons.2 ⟨fun z hz => ?_,insI_sorted x r h2⟩
      rcases List.mem_cons.1 ((insI_perm x r).mem_iff.1 hz) with rfl | hz
      · omega
      · exact h1 z hz
theorem sortI_sorted:∀ l,(sortI l).Pairwise (· ≤ ·)
  | [] => .nil
  | x::r=>insI_sorted x _ (sortI_sorted r)
theorem sorted_eq:∀ (a b:List Int),a.Perm b→a.Pairwise (· ≤ ·)→b.Pairwise (· ≤ ·)→a=b
  | [],b,h,_,_=>(List.nil_perm.1 h).symm
  | x::r,[],h,_,_=>absurd h.length_eq (by simp)
  | x::r,y::t,h,ha,hb=>by
    obtain ⟨h1,h2⟩:=List.pairwise_cons.1 ha
    obtain ⟨h3,h4⟩:=List.pairwise_cons.1 hb
    have e:x=y:=by
      have m1:x∈y::t:=h.mem_iff.1 (List.mem_cons_self ..)
      have m2:y∈x::r:=h.mem_iff.2 (List.mem_cons_self ..)
      rcases List.mem_cons.1 m1 with e | m1
      · exact e
      · rcases List.mem_cons.1 m2 with e | m2
        · exact e.symm
        · have:=h1 y m2;have:=h3 x m1;omega
    subst e
    rw [sorted_eq r t (List.Perm.cons_inv h) h2 h4]
theorem mergeSort_eq(l:List Int):l.mergeSort leB=sortI l:=by
  refine sorted_eq _ _ ((List.mergeSort_perm _ _).trans (sortI_perm l).symm) ?_ (sortI_sorted l)
  have:=List.pairwise_mergeSort leB_trans leB_total l
  exact this.imp (fun h=>by simpa [leB] using h)
end KL
namespace KV
open KL
theorem h39(base:Nat):FV Tryz.prog 40 [(.p (.sl 3 [(intP 1),(intP 1),(intP 14),(intP 1),(intP 0),(intP 2),(intP 14),(intP 1),(intP 2),(intP 3),(intP 12),(intP 1)])),(.p (.sl 3 [(intP 1),(intP 1),(intP 14),(intP 1),(intP 0),(intP 2),(intP 14),(intP 1),(intP 2),(intP 3),(intP 12),(intP 1)]))] base (.p (blP true)) [] :=
  eql_ok [[1,1,14,1],[0,2,14,1],[2,3,12,1]] [[1,1,14,1],[0,2,14,1],[2,3,12,1]] (by decide) (by unfold uni;decide) (by unfold uni;decide)
theorem h25(base:Nat):FV Tryz.prog 26 [(.p (.sl 3 [(intP 0),(intP 1),(intP 2)])),(.p (.sl 3 [(intP 0),(intP 1),(intP 2)]))] base (.p (blP true)) []:=eqi_ok [0,1,2] [0,1,2] (by decide)
theorem h87(base:Nat):FV Tryz.prog 90 [(.p (.sl 2 [(intP 5),(intP 1),(intP 14),(intP 4),(intP 9),(intP 2),(intP 12),(intP 3)])),(.p (.sl 2 [(intP 5),(intP 1),(intP 14),(intP 4),(intP 9),(intP 2),(intP 12),(intP 3)]))] base (.p (blP true)) [] :=
  eqn_ok [[5,1,14,4],[9,2,12,3]] [[5,1,14,4],[9,2,12,3]] (by decide) (by unfold uni;decide) (by unfold uni;decide)
theorem countedL_eq(c:Cup)(s:Nat):countedL c s=KL.sortI ((KL.isort (KL.ltC (KL.cntCmp c s)) (KL.idx c.done.length)).take (min c.done.length c.be.toNat)):=by
  unfold countedL
  exact KL.mergeSort_eq _
def totK(c:Cup)(s:Nat):Int:=((KL.sortI ((KL.isort (KL.ltC (KL.cntCmp c s)) (KL.idx c.done.length)).take (min c.done.length c.be.toNat))).map fun i=>scoreAt c i.toNat s).sum
theorem totalM_eq(c:Cup)(s:Nat):totalM c s=totK c s:=by
  unfold totalM totK
  rw [countedL_eq]
def betK(c:Cup)(a b:Nat):Bool:=KL.betterF (totK c a) (totK c b) (placesM c a) (placesM c b)
theorem betS_eq(c:Cup)(a b:Nat):betS c a b=betK c a b:=by
  unfold betS betK
  rw [totalM_eq,totalM_eq]
def rankK(c:Cup)(s:Nat):Int:=1+((KL.oth s c.sk.toNat).countP (fun x=>betK c x s):Nat)
theorem rankM_eq(c:Cup)(s:Nat):rankM c s=rankK c s:=by
  unfold rankM rankK
  simp only [betS_eq]
def canK(c:Cup)(s:Nat):Bool:=rankK (withC c (wonM c s)) s == 1
theorem canM_eq(c:Cup):canM c=canK c:=by
  funext s
  unfold canM canK
  rw [rankM_eq]
set_option maxRecDepth 100000 in
theorem v37:whoM (canM threeC) 3=[0,1,2]:=by
  rw [canM_eq]
  kernel_rfl
theorem clash_no{race:List Int}(h0:∀ x∈race,0≤x)(h:KL.NoClash race):KL.clashR race=false:=(KL.clash_iff race h0).2 h
theorem valid_three:KL.Valid threeC where
  sk1:=by decide
  sk2:=by decide
  ra1:=by decide
  ra2:=by decide
  be1:=by decide
  be2:=by decide
  pt1:=by decide
  pt2:=by decide
  dn:=by decide
  len:=by decide
  pts:=by decide
  rows:=by decide
  falls:=by kernel_rfl
  clash:=by
    show (KL.clashR [1,2,3] || (KL.clashR [3,1,1] || false))=false
    rw [clash_no (by decide) (by unfold KL.NoClash;decide),clash_no (by decide) (by unfold KL.NoClash;decide)]
    rfl
theorem valid_two:KL.Valid twoC where
  sk1:=by decide
  sk2:=by decide
  ra1:=by decide
  ra2:=by decide
  be1:=by decide
  be2:=by decide
  pt1:=by decide
  pt2:=by decide
  dn:=by decide
  len:=by decide
  pts:=by decide
  rows:=by decide
  falls:=by kernel_rfl
  clash:=by
    show (KL.clashR [1,2] || (KL.clashR [1,2] || (KL.clashR [1,2] || false)))=false
    rw [clash_no (by decide) (by unfold KL.NoClash;decide)]
    rfl
theorem h37(base:Nat):FV Tryz.prog 38 [.p (cupP threeC)] base (.tup [.p (intsP [0,1,2]),.p (intP 0)]) []:=by
  have:=canE_ok threeC valid_three (base:=base)
  rwa [show whoM (canM threeC) threeC.sk.toNat=[0,1,2] from v37] at this
theorem v34:tableM threeC=[[1,1,14,1],[0,2,14,1],[2,3,12,1]]:=by
  unfold tableM tabL
  simp only [rankM_eq,totalM_eq]
  kernel_rfl
theorem h34(base:Nat):FV Tryz.prog 35 [.p (cupP threeC)] base (.tup [.p (.sl 3 ([[1,1,14,1],[0,2,14,1],[2,3,12,1]].flatten.map intP)),.p (intP 0)]) []:=by
  have:=table_ok threeC valid_three (base:=base)
  rwa [v34] at this
theorem lastE_three(k:Int)(h:0≤k∧k<3):lastE threeC k=0:=by
  unfold lastE
  rw [named_in valid_three h.1 h.2]
  rfl
def beatK(c:Cup)(o:Nat)(p:Int)(s:Nat)(w:Int):Bool:=betK (withC c [KL.race2 c.sk.toNat o p s w]) o s
theorem beatsM_fun:beatsM=beatK:=by funext c o p s w;unfold beatsM beatK;rw [betS_eq]
def findK(c:Cup)(s:Nat)(pl:Int)(free:List Int):Int:=(KL.oth s c.sk.toNat).foldl (fun fo x=>if fo<0 then (if free.getD x 0=0 then (if beatK c x pl s 1 then fo else (x:Int)) else fo) else fo) (-1)
theorem findM_eq(c:Cup)(s:Nat)(pl:Int)(free:List Int):findM c s pl free=findK c s pl free:=by
  have:findF c s pl free=fun fo x=>if fo<0 then (if free.getD x 0=0 then (if beatK c x pl s 1 then fo else (x:Int)) else fo) else fo:=by
    funext fo x
    unfold findF
    rw [beatsM_fun]
  unfold findM findK
  rw [this]
def fullRK(c:Cup)(s:Nat):Nat→Int→List Int→Option (List Int)
  | 0,_,free=>some free
  | n+1,pl,free=>if findK c s pl free<0 then none else fullRK c s n (pl+1) (free.set (findK c s pl free).toNat pl)
theorem fullR_eq(c:Cup)(s:Nat):∀ n pl free,fullR c s n pl free=fullRK c s n pl free
  | 0,_,_=>rfl
  | n+1,pl,free=>by
    unfold fullR fullRK
    rw [findM_eq,fullR_eq c s n]
theorem v56:fullM threeC 2=some [2,3,1]:=by
  unfold fullM
  rw [fullR_eq]
  kernel_rfl
theorem h56(base:Nat):FV Tryz.prog 57 [.p (cupP threeC),.p (intP 2)] base (.tup [.p (intsP [2,3,1]),.p (intP 0)]) []:=by
  have:=full_ok threeC 2 (lastE_three 2 (by omega)) (base:=base)
  rw [v56] at this
  exact this
def passK(c:Cup)(skier s:Nat):Bool:=decide (s≠skier) && decide (1<rankK (withC c (wonM c s)) skier)
theorem passes_eq(c:Cup)(skier s:Nat):KL.passes c skier s=passK c skier s:=by
  unfold KL.passes passK
  rw [rankM_eq]
def agK(c:Cup)(skier:Nat):Nat→Nat→Option Nat
  | 0,_=>none
  | f+1,k=>if passK c skier k then some k else agK c skier f (k+1)
theorem ag_eq(c:Cup)(skier:Nat):∀ f k,KL.againstAt c skier f k=agK c skier f k
  | 0,_=>rfl
  | f+1,k=>by
    unfold KL.againstAt agK
    rw [passes_eq,ag_eq c skier f]
def sureK(c:Cup)(s:Nat):Bool := !(agK c s c.sk.toNat 0).isSome
theorem sureM_eq(c:Cup):sureM c=sureK c:=by
  funext s
  unfold sureM sureK KL.againstM
  rw [ag_eq]
theorem v38:whoM (sureM threeC) 3=[]:=by
  rw [sureM_eq]
  kernel_rfl
theorem h38(base:Nat):FV Tryz.prog 39 [.p (cupP threeC)] base (.tup [.p (intsP []),.p (intP 0)]) []:=by
  have:=sureE_ok threeC valid_three (base:=base)
  rwa [show whoM (sureM threeC) threeC.sk.toNat=[] from v38] at this
def decPK(c:Cup)(n:Nat):Bool:=decide (0<(whoM (sureK (earlyC c n)) c.sk.toNat).length) && decide ((whoM (canK (earlyC c n)) c.sk.toNat).length=1)
theorem decP_eq(c:Cup):decP c=decPK c:=by
  funext n
  unfold decP decPK
  rw [sureM_eq,canM_eq]
theorem v73:decM twoC=(3,0,0):=by
  unfold decM
  rw [decP_eq]
  simp only [sureM_eq]
  kernel_rfl
theorem h73(base:Nat):FV Tryz.prog 74 [.p (cupP twoC)] base (.tup [.p (intP 3),.p (intP 0),.p (intP 0)]) []:=by
  have:=dec_ok twoC valid_two (base:=base)
  rwa [v73] at this
def rivPK(c:Cup)(s i:Nat):Int:=if beatK c i 0 s 0 then 61 else upto (fun p=>beatK c i p s 0) 60 0
theorem rivPl_eq(c:Cup)(s i:Nat):rivPl c s i=rivPK c s i:=by
  unfold rivPl rivPK
  rw [beatsM_fun]
theorem v55:worstM threeC 1=(3,3,[1,0,2]):=by
  have e:rivG threeC 1=fun i=>if i=1 then [] else if 0<rivPK threeC 1 i then [[(i:Int),rivPK threeC 1 i]] else []:=by
    funext i
    unfold rivG
    rw [rivPl_eq]
  have h:((KL.isort (ltK 1) ((List.range threeC.sk.toNat).flatMap fun i=>if i=1 then [] else if 0<rivPK threeC 1 i then [[(i:Int),rivPK threeC 1 i]] else [])).foldl wStep (1,1,List.replicate threeC.sk.toNat 0):Int × Int × List Int)=(3,3,[1,0,2]):=by kernel_rfl
  unfold worstM rivM rivL
  rw [e]
  exact h
theorem h55(base:Nat):FV Tryz.prog 56 [.p (cupP threeC),.p (intP 1)] base (.tup [.p (intP 3),.p (intsP [1,0,2]),.p (intP 0)]) []:=by
  have:=worst_ok threeC 1 (lastE_three 1 (by omega)) (base:=base)
  rw [v55] at this
  exact this
theorem awake_told(h22:∀ base:Nat,FV Tryz.prog 23 [.p (cupP threeC),.p (intsP [5,5,9]),.p (intP 1),.p (intsP [4,3])] base (.tup [.p (.sl 2 ([[5,1,14,4],[9,2,12,3]].flatten.map intP)),.p (intP 0)]) [])(base:Nat):FV Tryz.prog 20 [] base (.p (blP true)) [] :=
  awake_p0 h34 h37 h38 h55 h39 h25 h73 h56 h22 h87
end KV
end Go.Proofs
end
section
namespace Go.Proofs
open KL Go.RowKit
namespace KV

theorem totalM_bd{c:KL.Cup}(hV:KL.Valid c)(s:Nat):0≤KL.totalM c s∧KL.totalM c s≤20000:=by
  unfold KL.totalM
  have hl:((KL.countedL c s).map fun i=>KL.scoreAt c i.toNat s).length≤20:=by
    rw [List.length_map,countedL_eq]
    have h1:∀ l,(KL.sortI l).length=l.length:=fun l=>by rw [← KL.mergeSort_eq];exact List.length_mergeSort l
    rw [h1,List.length_take]
    have:=hV.be2
    have:=hV.ra2
    omega
  have hb:∀ x∈((KL.countedL c s).map fun i=>KL.scoreAt c i.toNat s),0≤x∧x≤1000:=fun x hx=>by
    obtain ⟨i,_,rfl⟩:=List.mem_map.1 hx
    exact KL.scoreM_bd _ _ _ hV.pts
  have key:∀ l:List Int,(∀ x∈l,0≤x∧x≤1000)→0≤l.sum∧l.sum≤1000*l.length:=fun l h=>by
    induction l with
    | nil=>simp
    | cons x r ih =>
      have h1:=h x (List.mem_cons_self ..)
      have h2:=ih fun y hy=>h y (List.mem_cons_of_mem _ hy)
      rw [List.sum_cons,List.length_cons]
      omega
  have:=key _ hb
  omega
theorem totalsM_len(c:KL.Cup):(KL.totalsM c).length=c.sk.toNat:=KL.totalsUp_length _ _
theorem totalsM_mem{c:KL.Cup}(hV:KL.Valid c):∀ x∈KL.totalsM c,0≤x∧x≤20000:=fun x hx=>by
  unfold KL.totalsM KL.totalsUp at hx
  obtain ⟨s,_,rfl⟩:=List.mem_map.1 hx
  exact totalM_bd hV s
theorem all_within{l:List Int}{a b:Int}(h:(l.all fun x=>within x a b)=true):∀ x∈l,a≤x∧x≤b:=fun x hx=>by
  have:=List.all_eq_true.1 h x hx
  exact within_iff.1 this
theorem nat_ok(c:KL.Cup)(ns:List Int)(mo:Int)(qs:List Int)(hS:KL.Small c)(hE:natE c ns mo qs=0){base:Nat}:FV Tryz.prog 23 [.p (cupP c),.p (intsP ns),.p (intP mo),.p (intsP qs)] base
    (.tup [.p (.sl (nationsM c ns mo qs).length ((nationsM c ns mo qs).flatten.map intP)),.p (intP 0)]) []:=by
  unfold natE at hE
  split at hE
  · exact absurd hE ‹_›
  rename_i h1
  split at hE
  · omega
  rename_i h2
  split at hE
  · omega
  rename_i h3
  split at hE
  · omega
  rename_i h4
  have h1:KL.checkP c=0:=Decidable.byContradiction h1
  have hV:=(KL.valid_iff c).1 h1
  have a1:(ns.length:Int)=c.sk:=Decidable.byContradiction fun h=>h2 (.inl h)
  have a2:within (qs.length:Int) 1 31=true:=by
    cases h:within (qs.length:Int) 1 31
    · exact absurd (.inr h) h2
    · rfl
  have a3:(ns.all fun x=>within x 0 30)=true:=by
    cases h:(ns.all fun x=>within x 0 30)
    · exact absurd (.inl h) h3
    · rfl
  have a4:within mo 1 12=true:=by
    cases h:within mo 1 12
    · exact absurd (.inr (.inl h)) h3
    · rfl
  have a5:(qs.all fun x=>within x 0 20)=true:=by
    cases h:(qs.all fun x=>within x 0 20)
    · exact absurd (.inr (.inr h)) h3
    · rfl
  have a6:KL.fallsB qs=true:=by
    cases h:KL.fallsB qs
    · exact absurd h h4
    · rfl
  have b2:=within_iff.1 a2
  have s2:=hV.sk2
  exact nat_p7 hS h1 a1 a2 (by unfold small;omega) a3 a4 (by unfold small;omega) a5 (by omega) a6 (nat_main hV a1 (all_within a3) (within_iff.1 a4) (by omega) (totalsM_len c) (fun x hx=>by have:=totalsM_mem hV x hx;omega))
theorem totals_three:KL.totalsM threeC=[14,14,12]:=by
  have e:KL.totalsM threeC=(List.range 3).map (totK threeC):=by
    unfold KL.totalsM KL.totalsUp
    exact List.map_congr_left fun s _=>totalM_eq threeC s
  have h:(List.range 3).map (totK threeC)=[14,14,12]:=by kernel_rfl
  exact e.trans h
theorem v22:nationsM threeC [5,5,9] 1 [4,3]=[[5,1,14,4],[9,2,12,3]]:=by
  unfold nationsM
  have h:natL [4,3] (outL [5,5,9] [14,14,12] 1 ([14,14,12]:List Int).length 31)=[[5,1,14,4],[9,2,12,3]]:=by kernel_rfl
  rw [totals_three]
  exact h
theorem h22(base:Nat):FV Tryz.prog 23 [.p (cupP threeC),.p (intsP [5,5,9]),.p (intP 1),.p (intsP [4,3])] base (.tup [.p (.sl 2 ([[5,1,14,4],[9,2,12,3]].flatten.map intP)),.p (intP 0)]) []:=by
  have hE:natE threeC [5,5,9] 1 [4,3]=0:=by
    unfold natE
    have h:(if (([5,5,9]:List Int).length:Int)≠threeC.sk∨within (([4,3]:List Int).length:Int) 1 31=false then (2:Int) else if (([5,5,9]:List Int).all fun x=>within x 0 30)=false∨within 1 1 12=false∨(([4,3]:List Int).all fun x=>within x 0 20)=false then 3 else if KL.fallsB [4,3]=false then 4 else 0)=0:=by kernel_rfl
    rw [(KL.valid_iff threeC).2 valid_three,if_neg (by simp)]
    exact h
  have:=nat_ok threeC [5,5,9] 1 [4,3] valid_three.small hE (base:=base)
  rw [v22] at this
  exact this
theorem awake_ok(base:Nat):FV Tryz.prog 20 [] base (.p (blP true)) []:=awake_told h22 base
end KV
end Go.Proofs
end
section
namespace Go.Proofs
namespace KL
section
variable {α:Type}
theorem ins_split(lt:α→α→Bool)(A:List α)(x:α):∃ B D:List α,A=B++D∧ins lt A x=B++x::D∧(∀ d∈D,lt x d=true)∧(B=[]∨∃ B' h,B=B'++[h]∧lt x h=false):=by
  have hA:A=(A.reverse.dropWhile (lt x)).reverse++(A.reverse.takeWhile (lt x)).reverse:=by
    rw [← List.reverse_append,List.takeWhile_append_dropWhile,List.reverse_reverse]
  generalize hdw:A.reverse.dropWhile (lt x)=dw at hA
  generalize htw:A.reverse.takeWhile (lt x)=tw at hA
  have hp:insPos lt x A=dw.reverse.length:=by unfold insPos;rw [hdw,List.length_reverse]
  refine ⟨dw.reverse,tw.reverse,hA,?_,fun d hd => ?_,?_⟩
  · unfold ins
    rw [hp]
    conv=>lhs;rw [hA]
    rw [List.take_left',List.drop_left'] <;> rfl
  · rw [List.mem_reverse,← htw] at hd
    exact List.all_eq_true.1 List.all_takeWhile d hd
  · cases dw with
    | nil=>exact .inl rfl
    | cons h r =>
      refine .inr ⟨r.reverse,h,by simp,?_⟩
      have:=List.head_dropWhile_not (lt x) (l:=A.reverse) (by rw [hdw];simp)
      simp only [hdw,List.head_cons] at this
      simpa using this
theorem ins_perm(lt:α→α→Bool)(A:List α)(x:α):(ins lt A x).Perm (x::A):=by
  obtain ⟨B,D,h1,h2,_⟩:=ins_split lt A x
  rw [h2,h1]
  exact List.perm_middle
theorem isort_perm(lt:α→α→Bool)(l:List α):(isort lt l).Perm l:=by
  unfold isort
  have:∀ (l A:List α),(l.foldl (ins lt) A).Perm (A++l):=by
    intro l
    induction l with
    | nil=>intro A;simp
    | cons x r ih =>
      intro A
      rw [List.foldl_cons]
      refine (ih _).trans (((ins_perm lt A x).append_right r).trans ?_)
      exact List.perm_middle.symm
  simpa using this l []
theorem ins_sorted{f:α→Int}{lt:α→α→Bool}(hlt:∀ x y,lt x y=decide (f x<f y)){A:List α}(x:α)(hs:A.Pairwise (fun a b=>f a≤f b)):(ins lt A x).Pairwise (fun a b=>f a≤f b):=by
  obtain ⟨B,D,rfl,h2,h3,h4⟩:=ins_split lt A x
  rw [h2]
  obtain ⟨s1,s2,s3⟩:=List.pairwise_append.1 hs
  have hB:∀ b∈B,f b≤f x:=fun b hb=>by
    rcases h4 with rfl | ⟨B',h,rfl,hx⟩
    · simp at hb
    · rw [hlt,decide_eq_false_iff_not] at hx
      rcases List.mem_append.1 hb with hb | hb
      · have:=(List.pairwise_append.1 s1).2.2 b hb h (by simp)
        omega
      · simp at hb;subst hb;omega
  have hD:∀ d∈D,f x≤f d:=fun d hd=>by
    have:=h3 d hd
    rw [hlt,decide_eq_true_eq] at this
    omega
  refine List.pairwise_append.2 ⟨s1,List.pairwise_cons.2 ⟨hD,s2⟩,fun a ha b hb => ?_⟩
  rcases List.mem_cons.1 hb with rfl | hb
  · exact hB a ha
  · exact s3 a ha b hb
theorem isort_sorted{f:α→Int}{lt:α→α→Bool}(hlt:∀ x y,lt x y=decide (f x<f y))(l:List α):(isort lt l).Pairwise (fun a b=>f a≤f b):=by
  unfold isort
  have:∀ (l A:List α),A.Pairwise (fun a b=>f a≤f b)→(l.foldl (ins lt) A).Pairwise (fun a b=>f a≤f b):=by
    intro l
    induction l with
    | nil=>intro A h;exact h
    | cons x r ih=>intro A h;rw [List.foldl_cons];exact ih _ (ins_sorted hlt x h)
  exact this l [] .nil
end
end KL
end Go.Proofs
end
namespace Go.Proofs
namespace KV
section
open KL
def ofM(L:List (List Int))(n:Int):List Int:=(L.find? fun x=>x.getD 0 0 == n).getD [0,-1,0,0]
end
end KV
end Go.Proofs
section
namespace Go.Proofs
open KL Go.RowKit
namespace KV

theorem cmp_dec(a b:Int):decide (KL.cmpI a b<0)=decide (a<b):=by
  unfold KL.cmpI
  split
  · rename_i h;simp [h]
  · rename_i h
    split
    · rename_i h2;simp;omega
    · simp;omega
section
variable {ns ts:List Int} {mo:Int} {qs:List Int} {N:Nat}
end

end KV
end Go.Proofs
end
namespace Go.Proofs
namespace KV
section
open KL
end
end KV
end Go.Proofs
section
namespace Go.Proofs
open KL Go.RowKit
namespace KL
section
variable {α:Type}
theorem ins_stable{f g:α→Int}{lt:α→α→Bool}(hlt:∀ x y,lt x y=decide (f x<f y)){A:List α}(x:α)(hs:A.Pairwise (fun a b=>f a<f b∨f a=f b∧g a<g b))(hg:∀ a∈A,g a<g x):(ins lt A x).Pairwise (fun a b=>f a<f b∨f a=f b∧g a<g b):=by
  obtain ⟨B,D,rfl,h2,h3,h4⟩:=ins_split lt A x
  rw [h2]
  obtain ⟨s1,s2,s3⟩:=List.pairwise_append.1 hs
  have hB:∀ b∈B,f b≤f x:=fun b hb=>by
    rcases h4 with rfl | ⟨B',h,rfl,hx⟩
    · simp at hb
    · rw [hlt,decide_eq_false_iff_not] at hx
      rcases List.mem_append.1 hb with hb | hb
      · have:=(List.pairwise_append.1 s1).2.2 b hb h (by simp)
        omega
      · simp at hb;subst hb;omega
  have hD:∀ d∈D,f x<f d:=fun d hd=>by
    have:=h3 d hd
    rwa [hlt,decide_eq_true_eq] at this
  refine List.pairwise_append.2 ⟨s1,List.pairwise_cons.2 ⟨fun d hd => .inl (hD d hd),s2⟩,fun a ha b hb => ?_⟩
  rcases List.mem_cons.1 hb with rfl | hb
  · have h5:=hB a ha
    have h6:=hg a (List.mem_append_left _ ha)
    by_cases e:f a=f b
    · exact .inr ⟨e,h6⟩
    · exact .inl (by omega)
  · exact s3 a ha b hb
theorem isort_stable{f g:α→Int}{lt:α→α→Bool}(hlt:∀ x y,lt x y=decide (f x<f y))(l:List α)(hl:l.Pairwise (fun a b=>g a<g b)):(isort lt l).Pairwise (fun a b=>f a<f b∨f a=f b∧g a<g b):=by
  unfold isort
  have:∀ (l A:List α),l.Pairwise (fun a b=>g a<g b)→(∀ a∈A,∀ x∈l,g a<g x)→A.Pairwise (fun a b=>f a<f b∨f a=f b∧g a<g b)→(l.foldl (ins lt) A).Pairwise (fun a b=>f a<f b∨f a=f b∧g a<g b):=by
    intro l
    induction l with
    | nil=>intro A _ _ h;exact h
    | cons x r ih =>
      intro A hl hA h
      obtain ⟨h1,h2⟩:=List.pairwise_cons.1 hl
      rw [List.foldl_cons]
      refine ih _ h2 (fun a ha y hy => ?_) (ins_stable hlt x h (fun a ha=>hA a ha x (List.mem_cons_self ..)))
      rcases List.mem_cons.1 ((ins_perm lt A x).mem_iff.1 ha) with rfl | ha
      · exact h1 y hy
      · exact hA a ha y (List.mem_cons_of_mem _ hy)
  exact this l [] hl (fun a ha=>by simp at ha) .nil
end
end KL
namespace KV

end KV
end Go.Proofs
end
namespace Go.Proofs
namespace KV
section
open KL
def mostM(c:Cup)(n:Nat):List Int:=(List.range n).map fun s=>totalM (withC c (wonM c s)) s
end
end KV
end Go.Proofs
section
namespace Go.Proofs
namespace KL
end KL
end Go.Proofs
end
section
namespace Go.Proofs
open KL Go.RowKit
namespace KV

def pos(x:Int):Int:=if 0≤x then x else 0
end KV
end Go.Proofs
end
section
namespace Go.Proofs
open KL Go.RowKit
namespace KV

section
variable {c:Cup} {F:List (List Int)} {x:Nat}
end
end KV
end Go.Proofs
end
section
namespace Go.Proofs
open KL Go.RowKit
namespace KV

theorem srt_ext{α:Type}{r:α→α→Prop}(has:∀ a b,r a b→¬ r b a):∀ {a b:List α},a.Pairwise r→b.Pairwise r→(∀ x,x∈a↔x∈b)→a=b
  | [],[],_,_,_=>rfl
  | [],y::b,_,_,h=>by have:=(h y).2 (by simp);simp at this
  | x::a,[],_,_,h=>by have:=(h x).1 (by simp);simp at this
  | x::a,y::b,ha,hb,h=>by
    obtain ⟨a1,a2⟩:=List.pairwise_cons.1 ha
    obtain ⟨b1,b2⟩:=List.pairwise_cons.1 hb
    have e:x=y:=by
      rcases List.mem_cons.1 ((h x).1 (by simp)) with e | h1
      · exact e
      · rcases List.mem_cons.1 ((h y).2 (by simp)) with e | h2
        · exact e.symm
        · exact absurd (b1 x h1) (has _ _ (a1 y h2))
    subst e
    rw [srt_ext has a2 b2 fun z => ?_]
    constructor
    · intro hz
      rcases List.mem_cons.1 ((h z).1 (List.mem_cons_of_mem _ hz)) with e | h1
      · subst e;exact absurd (a1 z hz) (has _ _ (a1 z hz))
      · exact h1
    · intro hz
      rcases List.mem_cons.1 ((h z).2 (List.mem_cons_of_mem _ hz)) with e | h1
      · subst e;exact absurd (b1 z hz) (has _ _ (b1 z hz))
      · exact h1

theorem betS_self(c:Cup)(s:Nat):betS c s s=false:=by
  unfold betS KL.betterF
  rw [if_pos rfl]
  exact KL.lexFrom_same _ _ _
def bttrUp(c:Cup)(s n:Nat):Int:=1+((List.range n).countP (fun x=>betS c x s):Nat)
theorem rank_ref(c:Cup)(s:Nat):rankM c s=bttrUp c s c.sk.toNat:=by
  unfold rankM bttrUp KL.oth
  rw [List.countP_filter]
  congr 2
  refine List.countP_congr fun x hx => ?_
  by_cases e:x=s
  · subst e;simp [betS_self]
  · simp [e]
theorem rank_bd(c:Cup)(s:Nat)(hs:(s:Int)<c.sk):1≤rankM c s∧rankM c s≤c.sk:=by
  rw [rank_ref]
  unfold bttrUp
  have h1:=List.countP_le_length (p:=fun x=>betS c x s) (l:=List.range c.sk.toNat)
  rw [List.length_range] at h1
  rcases Nat.lt_or_ge ((List.range c.sk.toNat).countP fun x=>betS c x s) c.sk.toNat with h2 | h2
  · omega
  · have h3:(List.range c.sk.toNat).countP (fun x=>betS c x s)=(List.range c.sk.toNat).length:=by rw [List.length_range];omega
    have:=List.countP_eq_length.1 h3 s (List.mem_range.2 (by omega))
    rw [betS_self] at this
    cases this

def rowT(c:Cup)(s:Nat):List Int:=[(s:Int),rankM c s,totalM c s,(placesM c s).getD 1 0]
def rkL(c:Cup)(r n:Nat):List (List Int):=((List.range n).filter fun s=>decide (rankM c s=(r:Int)+1)).map (rowT c)
def tabR(c:Cup)(n:Nat):List (List Int):=(List.range n).flatMap fun r=>rkL c r c.sk.toNat
abbrev ordT(a b:List Int):Prop:=a.getD 1 0<b.getD 1 0∨a.getD 1 0=b.getD 1 0∧a.getD 0 0<b.getD 0 0
theorem table_ref(c:Cup):tableM c=tabR c c.sk.toNat:=by
  refine srt_ext (r:=ordT) (fun a b h1 h2=>by unfold ordT at *;omega) ?_ ?_ fun x => ?_
  · refine isort_stable (f:=fun a:List Int=>a.getD 1 0) (g:=fun a:List Int=>a.getD 0 0) (fun x y=>cmp_dec _ _) _ ?_
    unfold tabL
    rw [List.pairwise_map]
    exact List.pairwise_lt_range.imp fun h=>by simp;omega
  · unfold tabR
    rw [List.pairwise_flatMap]
    refine ⟨fun r hr => ?_,List.pairwise_lt_range.imp fun {r1 r2} h => ?_⟩
    · unfold rkL
      rw [List.pairwise_map]
      refine (List.Pairwise.imp_of_mem (fun {a b} ha hb h => ?_) (List.pairwise_lt_range.filter _))
      obtain ⟨_,h1⟩:=List.mem_filter.1 ha
      obtain ⟨_,h2⟩:=List.mem_filter.1 hb
      have h1:=of_decide_eq_true h1
      have h2:=of_decide_eq_true h2
      refine .inr ⟨?_,?_⟩
      · show rankM c a=rankM c b
        omega
      · show (a:Int)<b
        omega
    · intro x hx y hy
      unfold rkL at hx hy
      obtain ⟨a,ha,rfl⟩:=List.mem_map.1 hx
      obtain ⟨b,hb,rfl⟩:=List.mem_map.1 hy
      have h1:=of_decide_eq_true (List.mem_filter.1 ha).2
      have h2:=of_decide_eq_true (List.mem_filter.1 hb).2
      refine .inl ?_
      show rankM c a<rankM c b
      omega
  · unfold tableM
    rw [(isort_perm _ _).mem_iff]
    unfold tabL tabR rkL
    rw [List.mem_map,List.mem_flatMap]
    constructor
    · rintro ⟨s,hs,rfl⟩
      have hs':=List.mem_range.1 hs
      have hb:=rank_bd c s (by omega)
      exact ⟨(rankM c s-1).toNat,List.mem_range.2 (by omega),List.mem_map.2 ⟨s,List.mem_filter.2 ⟨hs,decide_eq_true (by omega)⟩,rfl⟩⟩
    · rintro ⟨r,hr,hx⟩
      obtain ⟨s,hs,rfl⟩:=List.mem_map.1 hx
      exact ⟨s,(List.mem_filter.1 hs).1,rfl⟩
theorem tabR_uni(c:Cup)(n:Nat):uni 4 (tabR c n):=fun x hx=>by
  unfold tabR rkL at hx
  obtain ⟨r,_,hx⟩:=List.mem_flatMap.1 hx
  obtain ⟨s,_,rfl⟩:=List.mem_map.1 hx
  rfl

def badP(r:List Int)(p:Int):Bool:=decide (p≠0) && (decide (60<p+(r.count p:Int)-1) || r.any fun q=>decide (p<q) && decide (q≤p+(r.count p:Int)-1))
theorem clash_any(r:List Int)(h0:∀ x∈r,0≤x):KL.clashR r=r.any (badP r):=by
  cases e:r.any (badP r) with
  | false =>
    rw [KL.clash_iff r h0]
    intro p hp p0
    have h1:=List.any_eq_false.1 e p hp
    unfold badP at h1
    simp only [ne_eq,p0,not_false_eq_true,decide_true,Bool.true_and,Bool.or_eq_true,decide_eq_true_eq,not_or,Int.not_lt,List.any_eq_true,Bool.and_eq_true,not_exists,not_and] at h1
    obtain ⟨h2,h3⟩:=h1
    refine ⟨by omega,fun q hq hlt => ?_⟩
    have:=h3 q hq hlt
    omega
  | true =>
    obtain ⟨p,hp,h1⟩:=List.any_eq_true.1 e
    cases ec:KL.clashR r with
    | true=>rfl
    | false =>
      have hn:=(KL.clash_iff r h0).1 ec
      unfold badP at h1
      simp only [ne_eq,Bool.and_eq_true,decide_eq_true_eq,Bool.or_eq_true,List.any_eq_true] at h1
      obtain ⟨p0,h2⟩:=h1
      obtain ⟨n1,n2⟩:=hn p hp p0
      rcases h2 with h2 | ⟨q,hq,h3,h4⟩
      · omega
      · have:=n2 q hq h3
        omega
end KV
end Go.Proofs
end
namespace Go.Proofs
namespace KV
section
open KL
end
end KV
end Go.Proofs
section
namespace Go.Proofs
open KL Go.RowKit
namespace KV

section
variable {c:Cup} {F:List (List Int)} {s:Nat}
end
end KV
end Go.Proofs
end
namespace Go.Proofs
namespace KV
section
open KL
theorem table_perm(c:Cup):(tableM c).Perm ((List.range c.sk.toNat).map (rowT c)):=isort_perm _ _
theorem table_len(c:Cup):(tableM c).length=c.sk.toNat:=by rw [(table_perm c).length_eq];simp
theorem table_row(c:Cup){i:Nat}(hi:i<(tableM c).length):∃ k,k<c.sk.toNat∧(tableM c)[i]? = some (rowT c k):=by
  have h:=(table_perm c).mem_iff.1 (List.getElem_mem hi)
  obtain ⟨k,hk,e⟩:=List.mem_map.1 h
  exact ⟨k,List.mem_range.1 hk,by rw [List.getElem?_eq_getElem hi,e]⟩
def seenE(l:List Int):List (Value × PV):=l.map fun k=>(.int .i64 k,blP true)
theorem seenE_snoc(l:List Int)(k:Int):seenE (l++[k])=seenE l++[(.int .i64 k,blP true)]:=by unfold seenE;rw [List.map_append];rfl
end
section
open KL
def rkF(f:List (List Int))(a:Int):Int:=(f.getD a.toNat []).getD 2 0
structure FieldOK (f:List (List Int)) (t:List Int) (n:Nat):Prop where
  len:f.length=n
  uni:uni 3 f
  perm:t.Perm (upL n)
  at_:∀ i (h:i<t.length),f[(t[i]).toNat]? = some [t[i]+1,(t[i]).tmod 4,(i:Int)+1]
namespace FieldOK
variable {f:List (List Int)} {t:List Int} {n:Nat}
theorem tlen(h:FieldOK f t n):t.length=n:=by rw [h.perm.length_eq];simp [upL]
theorem tbd(h:FieldOK f t n){x:Int}(hx:x∈t):0≤x∧x.toNat<n:=upL_mem (h.perm.mem_iff.1 hx)
theorem rk(h:FieldOK f t n){i:Nat}(hi:i<t.length):rkF f t[i]=(i:Int)+1:=by
  unfold rkF
  rw [List.getD_eq_getElem?_getD (l:=f),h.at_ i hi];rfl
theorem rks(h:FieldOK f t n):t.Pairwise fun a b=>rkF f a<rkF f b:=by
  rw [List.pairwise_iff_getElem]
  intro i j hi hj hij
  rw [h.rk hi,h.rk hj]
  omega
theorem at_skier(h:FieldOK f t n){k:Nat}(hk:k<n):∃ i:Nat,i<n∧t[i]? = some (k:Int)∧f[k]? = some [(k:Int)+1,(k:Int).tmod 4,(i:Int)+1]:=by
  have hm:(k:Int)∈t:=h.perm.mem_iff.2 (List.mem_map.2 ⟨k,List.mem_range.2 hk,rfl⟩)
  obtain ⟨i,hi,e⟩:=List.mem_iff_getElem.1 hm
  have ha:=h.at_ i hi
  rw [e,Int.toNat_natCast] at ha
  exact ⟨i,by have:=h.tlen;omega,by rw [List.getElem?_eq_getElem hi,e],ha⟩
theorem sorted(h:FieldOK f t n){r:List Int}(hp:r.Perm (upL n))(hs:r.Pairwise fun a b=>rkF f a≤rkF f b):r=t:=by
  have hnd:r.Nodup:=hp.nodup_iff.2 (upL_nodup n)
  have hrt:r.Perm t:=hp.trans h.perm.symm
  have hinj:∀ a∈r,∀ b∈r,rkF f a=rkF f b→a=b:=fun a ha b hb e=>by
    obtain ⟨i,hi,rfl⟩:=List.mem_iff_getElem.1 (hrt.mem_iff.1 ha)
    obtain ⟨j,hj,rfl⟩:=List.mem_iff_getElem.1 (hrt.mem_iff.1 hb)
    rw [h.rk hi,h.rk hj] at e
    have:i=j:=by omega
    subst this;rfl
  refine srt_ext (r:=fun a b:Int=>rkF f a<rkF f b) (fun a b h1 h2=>by omega) ?_ h.rks fun x=>hrt.mem_iff
  rw [List.pairwise_iff_getElem] at hs ⊢
  intro i j hi hj hij
  have h1:=hs i j hi hj hij
  have h2:rkF f r[i]≠rkF f r[j]:=fun e=>by
    have:=hinj _ (List.getElem_mem hi) _ (List.getElem_mem hj) e
    exact List.pairwise_iff_getElem.1 hnd i j hi hj hij this
  omega
end FieldOK
def ordM(c:Cup):List Int:=(tableM c).map fun r=>r.getD 0 0
theorem ord_perm(c:Cup):(ordM c).Perm (upL c.sk.toNat):=by
  refine ((table_perm c).map fun r:List Int=>r.getD 0 0).trans ?_
  rw [List.map_map]
  exact List.Perm.refl _
theorem ord_len(c:Cup):(ordM c).length=c.sk.toNat:=by rw [(ord_perm c).length_eq];simp [upL]
theorem ord_at{c:Cup}{i:Nat}(hi:i<c.sk.toNat):∃ k:Nat,k<c.sk.toNat∧(tableM c)[i]? = some (rowT c k)∧(ordM c)[i]? = some (k:Int):=by
  obtain ⟨k,h1,h2⟩:=table_row c (i:=i) (by rw [table_len];exact hi)
  refine ⟨k,h1,h2,?_⟩
  unfold ordM
  rw [List.getElem?_map,h2];rfl
def fldM(c:Cup):Nat→List (List Int)
  | 0=>List.replicate c.sk.toNat [0,0,0]
  | i+1=>(fldM c i).set ((ordM c).getD i 0).toNat [(ordM c).getD i 0+1,((ordM c).getD i 0).tmod 4,(i:Int)+1]
theorem fld_len(c:Cup):∀ i,(fldM c i).length=c.sk.toNat
  | 0=>by simp [fldM]
  | i+1=>by unfold fldM;rw [List.length_set];exact fld_len c i
theorem fld_uni(c:Cup):∀ i,uni 3 (fldM c i)
  | 0=>fun x hx=>by rw [List.eq_of_mem_replicate hx];rfl
  | i+1=>fun x hx=>by
    unfold fldM at hx
    rcases List.mem_or_eq_of_mem_set hx with hx | rfl
    · exact fld_uni c i x hx
    · rfl
theorem fld_at(c:Cup):∀ (i:Nat),i≤c.sk.toNat→∀ j,j<i→(fldM c i)[((ordM c).getD j 0).toNat]? = some [(ordM c).getD j 0+1,((ordM c).getD j 0).tmod 4,(j:Int)+1]
  | 0,_,j,hj=>by omega
  | i+1,hi,j,hj=>by
    have hp:=ord_perm c
    have hl:=ord_len c
    have hnd:(ordM c).Nodup:=hp.nodup_iff.2 (upL_nodup _)
    have gd:∀ k,k<c.sk.toNat→(ordM c).getD k 0∈ordM c:=fun k hk=>by
      rw [List.getD_eq_getElem?_getD,List.getElem?_eq_getElem (by omega)]
      exact List.getElem_mem _
    have bd:∀ k,k<c.sk.toNat→0≤(ordM c).getD k 0∧((ordM c).getD k 0).toNat<c.sk.toNat:=fun k hk=>upL_mem (hp.mem_iff.1 (gd k hk))
    unfold fldM
    rw [List.getElem?_set]
    by_cases e:j=i
    · subst e
      rw [if_pos rfl,if_pos (by rw [fld_len];exact (bd j (by omega)).2)]
    · have hne:((ordM c).getD i 0).toNat≠((ordM c).getD j 0).toNat:=fun h=>by
        have b1:=bd i (by omega)
        have b2:=bd j (by omega)
        have h3:(ordM c).getD i 0=(ordM c).getD j 0:=by omega
        rw [List.getD_eq_getElem?_getD,List.getD_eq_getElem?_getD,List.getElem?_eq_getElem (by omega),List.getElem?_eq_getElem (by omega)] at h3
        exact List.pairwise_iff_getElem.1 hnd j i (by omega) (by omega) (by omega) h3.symm
      rw [if_neg hne]
      exact fld_at c i (by omega) j (by omega)
theorem field_ok(c:Cup):FieldOK (fldM c c.sk.toNat) (ordM c) c.sk.toNat:=by
  refine ⟨fld_len c _,fld_uni c _,ord_perm c,fun i hi => ?_⟩
  have:=fld_at c c.sk.toNat (Nat.le_refl _) i (by rw [ord_len] at hi;exact hi)
  rw [List.getD_eq_getElem?_getD,List.getElem?_eq_getElem hi] at this
  exact this
end
section
open KL
noncomputable abbrev zZ1c0:Code:=sub (cd Tryz.f147) [1,0,1,0,0]
noncomputable abbrev zZ1c1:Code:=sub (cd Tryz.f185) [1,1,0,1,0,0]
noncomputable abbrev zZ1c2:Code:=sub (cd Tryz.f187) [1,1,0,1,0,0]
theorem sin_p0{n lo hi:Int}{r0:Bool}(h0:lo≤n)(er0:r0=(decide (n≤hi))){base:Nat}:FV Tryz.prog 145 [(.p (intP n)),(.p (intP lo)),(.p (intP hi))] base (.p (blP r0)) []:=by
  subst er0
  exact FV.fin Tryz.func145 rfl (o:=[bT,bT,bT,bT]) (l:=[_,_,_,_]) (by kernel_rfl) (gc (q_le h0) (gc (q_le h0) (gc (q_le h0) (gc (q_le h0) gn))))
theorem sin_p1{n lo hi:Int}(h0:n<lo){base:Nat}:FV Tryz.prog 145 [(.p (intP n)),(.p (intP lo)),(.p (intP hi))] base (.p (blP false)) []:=by
  exact FV.fin Tryz.func145 rfl (o:=[bF,bF,bF,bF]) (l:=[_,_,_,_]) (by kernel_rfl) (gc (q_leF h0) (gc (q_leF h0) (gc (q_leF h0) (gc (q_leF h0) gn))))
theorem sin_ok(n lo hi:Int){base:Nat}:FV Tryz.prog 145 [.p (intP n),.p (intP lo),.p (intP hi)] base (.p (blP (within n lo hi))) []:=by
  by_cases h:lo≤n
  · exact sin_p0 h (by simp [within,h])
  · have e:within n lo hi=false:=by simp [within,h]
    rw [e];exact sin_p1 (show n<lo by omega)
theorem sg1_p0{n:Int}{r0:Bool}(er0:r0=(within n (1:Int) (60:Int))){base:Nat}:FV Tryz.prog 148 [(.p (intP n))] base (.p (blP r0)) []:=by
  subst er0
  exact FV.fin Tryz.func148 rfl (o:=[.c (.p (blP (within n (1:Int) (60:Int)))) []]) (l:=[_]) (by kernel_rfl) (gc (fk 0 (sin_ok n (1:Int) (60:Int)) rfl) gn)
theorem sg1_ok(n:Int){base:Nat}:FV Tryz.prog 148 [.p (intP n)] base (.p (blP (within n 1 60))) []:=sg1_p0 rfl
theorem sk208_p0{k lo hi:Int}{r0:Bool}(er0:r0=(within k lo hi)):FMM Tryz.prog 186 [(.p (intP k)),(.ptr 0 0)] [some (.box 203 [(.fn 208 [] []),(.p (intP lo)),(.p (intP hi))])] (.p (blP r0)) [some (.box 203 [(.fn 208 [] []),(.p (intP lo)),(.p (intP hi))])]:=by
  subst er0
  exact FMM.fin (k:=1) (g:=⟨[],[],[],[]⟩) rfl Tryz.func186 rfl (o:=[.c (.p (blP (within k lo hi))) []]) (l:=[_]) (by kernel_rfl) (gc (fk 1 (sin_ok k lo hi) rfl) gn)
theorem sk208_ok(k lo hi:Int):FMM Tryz.prog 186 [.p (intP k),.ptr 0 0] [some (.box 203 [(.fn 208 [] []),(.p (intP lo)),(.p (intP hi))])] (.p (blP (within k lo hi))) [some (.box 203 [(.fn 208 [] []),(.p (intP lo)),(.p (intP hi))])]:=sk208_p0 rfl
theorem sk209_p0{k lo hi:Int}{r0:Bool}(er0:r0=(within k lo hi)):FMM Tryz.prog 186 [(.p (intP k)),(.ptr 0 0)] [some (.box 203 [(.fn 209 [] []),(.p (intP lo)),(.p (intP hi))])] (.p (blP r0)) [some (.box 203 [(.fn 209 [] []),(.p (intP lo)),(.p (intP hi))])]:=by
  subst er0
  exact FMM.fin (k:=1) (g:=⟨[],[],[],[]⟩) rfl Tryz.func186 rfl (o:=[.c (.p (blP (within k lo hi))) []]) (l:=[_]) (by kernel_rfl) (gc (fk 1 (sin_ok k lo hi) rfl) gn)
theorem sk209_ok(k lo hi:Int):FMM Tryz.prog 186 [.p (intP k),.ptr 0 0] [some (.box 203 [(.fn 209 [] []),(.p (intP lo)),(.p (intP hi))])] (.p (blP (within k lo hi))) [some (.box 203 [(.fn 209 [] []),(.p (intP lo)),(.p (intP hi))])]:=sk209_p0 rfl
theorem sk210_p0{k lo hi:Int}{r0:Bool}(er0:r0=(within k lo hi)):FMM Tryz.prog 186 [(.p (intP k)),(.ptr 0 0)] [some (.box 203 [(.fn 210 [] []),(.p (intP lo)),(.p (intP hi))])] (.p (blP r0)) [some (.box 203 [(.fn 210 [] []),(.p (intP lo)),(.p (intP hi))])]:=by
  subst er0
  exact FMM.fin (k:=1) (g:=⟨[],[],[],[]⟩) rfl Tryz.func186 rfl (o:=[.c (.p (blP (within k lo hi))) []]) (l:=[_]) (by kernel_rfl) (gc (fk 1 (sin_ok k lo hi) rfl) gn)
theorem sk210_ok(k lo hi:Int):FMM Tryz.prog 186 [.p (intP k),.ptr 0 0] [some (.box 203 [(.fn 210 [] []),(.p (intP lo)),(.p (intP hi))])] (.p (blP (within k lo hi))) [some (.box 203 [(.fn 210 [] []),(.p (intP lo)),(.p (intP hi))])]:=sk210_p0 rfl
def sa148_S0(l:List Int)(i:Nat):St:=⟨fr 18 [(1,(.fn 148 [] [])),(7,(.p (intsP l))),(8,(.p (intP (l.length:Int)))),(9,(.p (intP (i:Int))))],[]⟩
theorem sa148_p0{l:List Int}{i'0:Nat}(hl0:LoopOK Tryz.prog 0 zZ1c0 (sa148_S0 l 0) (.exit 0) (sa148_S0 l i'0)){base:Nat}:FV Tryz.prog 147 [(.p (intsP l)),(.fn 148 [] [])] base (.p (blP true)) []:=by
  exact FV.fin Tryz.func147 rfl (o:=[.k 6 ⟨(rng [(0,1),(2,5),(10,8)]),[],[],[]⟩ (.exit 0) (sa148_S0 l i'0)]) (l:=[_]) (by kernel_rfl) (gc hl0.code gn)
theorem sa148_L0_p1{l:List Int}{i:Nat}{x100:Int}{i':Nat}(h0:(i:Int)<(l.length:Int))(h1:l[i]? = some x100)(h2:(within x100 1 60)=true)(h3:inR (((i+1):Nat):Int))(ei':i'=(i+1)):CodeOK Tryz.prog 0 zZ1c0 (sa148_S0 l i) .normal (sa148_S0 l i'):=by
  subst ei'
  exact CodeOK.fin (g:=⟨(rng [(0,1),(2,5),(10,8)]),[],[],[]⟩) (o:=[bT,.x (intP x100),.c (.p (blP (within x100 1 60))) [],bF]) (l:=[_,_,_,_,_,_]) (by kernel_rfl) (gc h3 (gc (q_notF h2) (gc (fk 0 (sg1_ok x100) rfl) (gc (atm intP h1) (gc (ixn intP h1) (gc (q_lt h0) gn))))))
theorem sa148_L0_p2{l:List Int}{i:Nat}(h0:(l.length:Int)≤(i:Int)):CodeOK Tryz.prog 0 zZ1c0 (sa148_S0 l i) (.exit 0) (sa148_S0 l i):=by
  exact CodeOK.fin (g:=⟨(rng [(0,1),(2,5),(10,8)]),[],[],[]⟩) (o:=[bF]) (l:=[_]) (by kernel_rfl) (gc (q_ltF h0) gn)
theorem sa148_ok(l:List Int)(hl:l.length≤1000)(ht:∀ x∈l,within x 1 60=true){base:Nat}:FV Tryz.prog 147 [.p (intsP l),.fn 148 [] []] base (.p (blP true)) []:=by
  have h:=LoopOK.count (P:=Tryz.prog) (k:=0) (b:=zZ1c0) (e := .exit 0) (R:=sa148_S0 l l.length) l.length (fun i=>sa148_S0 l i)
    (fun i hi=>sa148_L0_p1 (by omega) (List.getElem?_eq_getElem hi) (ht _ (List.getElem_mem hi)) (inR_nat (by omega)) rfl) (sa148_L0_p2 (by omega)) (by simp)
  exact sa148_p0 h
def sa208_S0(l:List Int)(lo:Int)(hi:Int)(i:Nat):St:=⟨fr 18 [(1,(.fn 186 [] [(.ptr 1 0)])),(7,(.own 0)),(8,(.p (intP (l.length:Int)))),(9,(.p (intP (i:Int))))],[some (.row 3 l.length (l.map intP)),some (.box 203 [(.fn 208 [] []),(.p (intP lo)),(.p (intP hi))])]⟩
theorem sa208_p0{l:List Int}{lo hi:Int}{i'0:Nat}(hl0:LoopOK Tryz.prog 2 zZ1c0 (sa208_S0 l lo hi 0) (.exit 0) (sa208_S0 l lo hi i'0)):FMM Tryz.prog 147 [(.own 0),(.fn 186 [] [(.ptr 1 0)])] [some (.row 3 l.length (l.map intP)),some (.box 203 [(.fn 208 [] []),(.p (intP lo)),(.p (intP hi))])] (.p (blP true)) [some (.row 3 l.length (l.map intP)),some (.box 203 [(.fn 208 [] []),(.p (intP lo)),(.p (intP hi))])]:=by
  exact FMM.fin (k:=2) (g:=⟨[],[],[],[]⟩) rfl Tryz.func147 rfl (o:=[.k 6 ⟨(rng [(0,1),(2,5),(10,8)]),[],[],[]⟩ (.exit 0) (sa208_S0 l lo hi i'0)]) (l:=[_]) (by kernel_rfl) (gc hl0.code gn)
theorem sa208_L0_p1{l:List Int}{lo hi:Int}{i:Nat}{x100:Int}{i':Nat}(h0:(i:Int)<(l.length:Int))(h1:l[i]? = some x100)(h2:(within x100 lo hi)=true)(h3:inR (((i+1):Nat):Int))(ei':i'=(i+1)):CodeOK Tryz.prog 2 zZ1c0 (sa208_S0 l lo hi i) .normal (sa208_S0 l lo hi i'):=by
  subst ei'
  exact CodeOK.fin (g:=⟨(rng [(0,1),(2,5),(10,8)]),[],[],[]⟩) (o:=[bT,.x (intP x100),.c (.p (blP (within x100 lo hi))) [(1,(.box 203 [(.fn 208 [] []),(.p (intP lo)),(.p (intP hi))]))],bF]) (l:=[_,_,FC Tryz.prog 186 [(.p (intP x100)),(.ptr 1 0)] [(1,(.box 203 [(.fn 208 [] []),(.p (intP lo)),(.p (intP hi))]))] 2 (.p (blP (within x100 lo hi))) [(1,(.box 203 [(.fn 208 [] []),(.p (intP lo)),(.p (intP hi))]))],_,_,_]) (by kernel_rfl) (gc h3 (gc (q_notF h2) (gc (FMM.fc (ids:=[1]) (sk208_ok x100 lo hi) (by kernel_rfl)) (gc (atm intP h1) (gc (ix_own (i:=(i:Int)) (Int.natCast_nonneg _) h1) (gc (q_lt h0) gn))))))
theorem sa208_L0_p2{l:List Int}{lo hi:Int}{i:Nat}(h0:(l.length:Int)≤(i:Int)):CodeOK Tryz.prog 2 zZ1c0 (sa208_S0 l lo hi i) (.exit 0) (sa208_S0 l lo hi i):=by
  exact CodeOK.fin (g:=⟨(rng [(0,1),(2,5),(10,8)]),[],[],[]⟩) (o:=[bF]) (l:=[_]) (by kernel_rfl) (gc (q_ltF h0) gn)
theorem sa208_ok(l:List Int)(lo hi:Int)(hl:l.length≤1000)(ht:∀ x∈l,within x lo hi=true):FMM Tryz.prog 147 [.own 0,.fn 186 [] [.ptr 1 0]] [some (.row 3 l.length (l.map intP)),some (.box 203 [(.fn 208 [] []),(.p (intP lo)),(.p (intP hi))])] (.p (blP true)) [some (.row 3 l.length (l.map intP)),some (.box 203 [(.fn 208 [] []),(.p (intP lo)),(.p (intP hi))])]:=by
  have h:=LoopOK.count (P:=Tryz.prog) (k:=2) (b:=zZ1c0) (e := .exit 0) (R:=sa208_S0 l lo hi l.length) l.length (fun i=>sa208_S0 l lo hi i)
    (fun i hi=>sa208_L0_p1 (by omega) (List.getElem?_eq_getElem hi) (ht _ (List.getElem_mem hi)) (inR_nat (by omega)) rfl) (sa208_L0_p2 (by omega)) (by simp)
  exact sa208_p0 h
def sa209_S0(l:List Int)(lo:Int)(hi:Int)(i:Nat):St:=⟨fr 18 [(1,(.fn 186 [] [(.ptr 1 0)])),(7,(.own 0)),(8,(.p (intP (l.length:Int)))),(9,(.p (intP (i:Int))))],[some (.row 3 l.length (l.map intP)),some (.box 203 [(.fn 209 [] []),(.p (intP lo)),(.p (intP hi))])]⟩
theorem sa209_p0{l:List Int}{lo hi:Int}{i'0:Nat}(hl0:LoopOK Tryz.prog 2 zZ1c0 (sa209_S0 l lo hi 0) (.exit 0) (sa209_S0 l lo hi i'0)):FMM Tryz.prog 147 [(.own 0),(.fn 186 [] [(.ptr 1 0)])] [some (.row 3 l.length (l.map intP)),some (.box 203 [(.fn 209 [] []),(.p (intP lo)),(.p (intP hi))])] (.p (blP true)) [some (.row 3 l.length (l.map intP)),some (.box 203 [(.fn 209 [] []),(.p (intP lo)),(.p (intP hi))])]:=by
  exact FMM.fin (k:=2) (g:=⟨[],[],[],[]⟩) rfl Tryz.func147 rfl (o:=[.k 6 ⟨(rng [(0,1),(2,5),(10,8)]),[],[],[]⟩ (.exit 0) (sa209_S0 l lo hi i'0)]) (l:=[_]) (by kernel_rfl) (gc hl0.code gn)
theorem sa209_L0_p1{l:List Int}{lo hi:Int}{i:Nat}{x100:Int}{i':Nat}(h0:(i:Int)<(l.length:Int))(h1:l[i]? = some x100)(h2:(within x100 lo hi)=true)(h3:inR (((i+1):Nat):Int))(ei':i'=(i+1)):CodeOK Tryz.prog 2 zZ1c0 (sa209_S0 l lo hi i) .normal (sa209_S0 l lo hi i'):=by
  subst ei'
  exact CodeOK.fin (g:=⟨(rng [(0,1),(2,5),(10,8)]),[],[],[]⟩) (o:=[bT,.x (intP x100),.c (.p (blP (within x100 lo hi))) [(1,(.box 203 [(.fn 209 [] []),(.p (intP lo)),(.p (intP hi))]))],bF]) (l:=[_,_,FC Tryz.prog 186 [(.p (intP x100)),(.ptr 1 0)] [(1,(.box 203 [(.fn 209 [] []),(.p (intP lo)),(.p (intP hi))]))] 2 (.p (blP (within x100 lo hi))) [(1,(.box 203 [(.fn 209 [] []),(.p (intP lo)),(.p (intP hi))]))],_,_,_]) (by kernel_rfl) (gc h3 (gc (q_notF h2) (gc (FMM.fc (ids:=[1]) (sk209_ok x100 lo hi) (by kernel_rfl)) (gc (atm intP h1) (gc (ix_own (i:=(i:Int)) (Int.natCast_nonneg _) h1) (gc (q_lt h0) gn))))))
theorem sa209_L0_p2{l:List Int}{lo hi:Int}{i:Nat}(h0:(l.length:Int)≤(i:Int)):CodeOK Tryz.prog 2 zZ1c0 (sa209_S0 l lo hi i) (.exit 0) (sa209_S0 l lo hi i):=by
  exact CodeOK.fin (g:=⟨(rng [(0,1),(2,5),(10,8)]),[],[],[]⟩) (o:=[bF]) (l:=[_]) (by kernel_rfl) (gc (q_ltF h0) gn)
theorem sa209_ok(l:List Int)(lo hi:Int)(hl:l.length≤1000)(ht:∀ x∈l,within x lo hi=true):FMM Tryz.prog 147 [.own 0,.fn 186 [] [.ptr 1 0]] [some (.row 3 l.length (l.map intP)),some (.box 203 [(.fn 209 [] []),(.p (intP lo)),(.p (intP hi))])] (.p (blP true)) [some (.row 3 l.length (l.map intP)),some (.box 203 [(.fn 209 [] []),(.p (intP lo)),(.p (intP hi))])]:=by
  have h:=LoopOK.count (P:=Tryz.prog) (k:=2) (b:=zZ1c0) (e := .exit 0) (R:=sa209_S0 l lo hi l.length) l.length (fun i=>sa209_S0 l lo hi i)
    (fun i hi=>sa209_L0_p1 (by omega) (List.getElem?_eq_getElem hi) (ht _ (List.getElem_mem hi)) (inR_nat (by omega)) rfl) (sa209_L0_p2 (by omega)) (by simp)
  exact sa209_p0 h
def sa210_S0(l:List Int)(lo:Int)(hi:Int)(i:Nat):St:=⟨fr 18 [(1,(.fn 186 [] [(.ptr 1 0)])),(7,(.own 0)),(8,(.p (intP (l.length:Int)))),(9,(.p (intP (i:Int))))],[some (.row 3 l.length (l.map intP)),some (.box 203 [(.fn 210 [] []),(.p (intP lo)),(.p (intP hi))])]⟩
theorem sa210_p0{l:List Int}{lo hi:Int}{i'0:Nat}(hl0:LoopOK Tryz.prog 2 zZ1c0 (sa210_S0 l lo hi 0) (.exit 0) (sa210_S0 l lo hi i'0)):FMM Tryz.prog 147 [(.own 0),(.fn 186 [] [(.ptr 1 0)])] [some (.row 3 l.length (l.map intP)),some (.box 203 [(.fn 210 [] []),(.p (intP lo)),(.p (intP hi))])] (.p (blP true)) [some (.row 3 l.length (l.map intP)),some (.box 203 [(.fn 210 [] []),(.p (intP lo)),(.p (intP hi))])]:=by
  exact FMM.fin (k:=2) (g:=⟨[],[],[],[]⟩) rfl Tryz.func147 rfl (o:=[.k 6 ⟨(rng [(0,1),(2,5),(10,8)]),[],[],[]⟩ (.exit 0) (sa210_S0 l lo hi i'0)]) (l:=[_]) (by kernel_rfl) (gc hl0.code gn)
theorem sa210_L0_p1{l:List Int}{lo hi:Int}{i:Nat}{x100:Int}{i':Nat}(h0:(i:Int)<(l.length:Int))(h1:l[i]? = some x100)(h2:(within x100 lo hi)=true)(h3:inR (((i+1):Nat):Int))(ei':i'=(i+1)):CodeOK Tryz.prog 2 zZ1c0 (sa210_S0 l lo hi i) .normal (sa210_S0 l lo hi i'):=by
  subst ei'
  exact CodeOK.fin (g:=⟨(rng [(0,1),(2,5),(10,8)]),[],[],[]⟩) (o:=[bT,.x (intP x100),.c (.p (blP (within x100 lo hi))) [(1,(.box 203 [(.fn 210 [] []),(.p (intP lo)),(.p (intP hi))]))],bF]) (l:=[_,_,FC Tryz.prog 186 [(.p (intP x100)),(.ptr 1 0)] [(1,(.box 203 [(.fn 210 [] []),(.p (intP lo)),(.p (intP hi))]))] 2 (.p (blP (within x100 lo hi))) [(1,(.box 203 [(.fn 210 [] []),(.p (intP lo)),(.p (intP hi))]))],_,_,_]) (by kernel_rfl) (gc h3 (gc (q_notF h2) (gc (FMM.fc (ids:=[1]) (sk210_ok x100 lo hi) (by kernel_rfl)) (gc (atm intP h1) (gc (ix_own (i:=(i:Int)) (Int.natCast_nonneg _) h1) (gc (q_lt h0) gn))))))
theorem sa210_L0_p2{l:List Int}{lo hi:Int}{i:Nat}(h0:(l.length:Int)≤(i:Int)):CodeOK Tryz.prog 2 zZ1c0 (sa210_S0 l lo hi i) (.exit 0) (sa210_S0 l lo hi i):=by
  exact CodeOK.fin (g:=⟨(rng [(0,1),(2,5),(10,8)]),[],[],[]⟩) (o:=[bF]) (l:=[_]) (by kernel_rfl) (gc (q_ltF h0) gn)
theorem sa210_ok(l:List Int)(lo hi:Int)(hl:l.length≤1000)(ht:∀ x∈l,within x lo hi=true):FMM Tryz.prog 147 [.own 0,.fn 186 [] [.ptr 1 0]] [some (.row 3 l.length (l.map intP)),some (.box 203 [(.fn 210 [] []),(.p (intP lo)),(.p (intP hi))])] (.p (blP true)) [some (.row 3 l.length (l.map intP)),some (.box 203 [(.fn 210 [] []),(.p (intP lo)),(.p (intP hi))])]:=by
  have h:=LoopOK.count (P:=Tryz.prog) (k:=2) (b:=zZ1c0) (e := .exit 0) (R:=sa210_S0 l lo hi l.length) l.length (fun i=>sa210_S0 l lo hi i)
    (fun i hi=>sa210_L0_p1 (by omega) (List.getElem?_eq_getElem hi) (ht _ (List.getElem_mem hi)) (inR_nat (by omega)) rfl) (sa210_L0_p2 (by omega)) (by simp)
  exact sa210_p0 h
theorem sn208_p0{y0 y1 y2:Int}{base:Nat}:FV Tryz.prog 208 [(.p (.agg [(intP y0),(intP y1),(intP y2)]))] base (.p (intP y0)) []:=by
  exact FV.fin Tryz.func208 rfl (o:=[]) (l:=[]) (by kernel_rfl) (gn)
def sl208_S0(f:List (List Int))(lo:Int)(hi:Int)(i:Nat)(on:Nat)(oc:List PV):St:=⟨fr 23 [(2,(.ptr 0 0)),(4,(.p nilS)),(5,(.own 1)),(8,(.p (.sl f.length (f.flatten.map intP)))),(9,(.p (intP (f.length:Int)))),(10,(.p (intP (i:Int))))],[some (.box 203 [(.fn 208 [] []),(.p (intP lo)),(.p (intP hi))]),some (.row 3 on oc)]⟩
theorem sl208_p0{f:List (List Int)}{lo hi:Int}{i'0:Nat}{o'1:List Int}(hl0:LoopOK Tryz.prog 0 zZ1c1 (sl208_S0 f lo hi 0 0 []) (.exit 0) (sl208_S0 f lo hi i'0 o'1.length (o'1.map intP))){base:Nat}:FV Tryz.prog 185 [(.agg [(.fn 208 [] []),(.p (intP lo)),(.p (intP hi))]),(.p (.sl f.length (f.flatten.map intP)))] base (.own base) [(base,(.row 3 o'1.length (o'1.map intP)))]:=by
  exact FV.fin Tryz.func185 rfl (o:=[.k 8 ⟨(rng [(0,2),(3,1),(6,2),(11,11)]),[0,1],[],[(5,3)]⟩ (.exit 0) (sl208_S0 f lo hi i'0 o'1.length (o'1.map intP))]) (l:=[_]) (by kernel_rfl) (gc hl0.code gn)
theorem sl208_L0_p0{f:List (List Int)}{lo hi:Int}{i:Nat}{o:List Int}{y100 y101 y102:Int}{i':Nat}{o':List Int}(h0:(i:Int)<(f.length:Int))(h1:f[i]? = some [y100,y101,y102])(h2:uni 3 f)(h3:[(intP y100)].length=1*1∧o.length+1≤1000000)(h4:inR (((i+1):Nat):Int))(ei':i'=(i+1))(eo'n:o'.length=(o.length+1))(eo'c:o'.map intP=((o.map intP)++[(intP y100)])):CodeOK Tryz.prog 0 zZ1c1 (sl208_S0 f lo hi i o.length (o.map intP)) .normal (sl208_S0 f lo hi i' o'.length (o'.map intP)):=by
  subst ei'
  have raw:CodeOK Tryz.prog 0 zZ1c1 (sl208_S0 f lo hi i o.length (o.map intP)) .normal (sl208_S0 f lo hi (i+1) (o.length+1) ((o.map intP)++[(intP y100)])):=CodeOK.fin (g:=⟨(rng [(0,2),(3,1),(6,2),(11,11)]),[0,4],[],[]⟩) (o:=[bT,.x (.agg [(intP y100),(intP y101),(intP y102)]),.c (.p (intP y100)) []]) (l:=[_,_,FC Tryz.prog 208 [(.p (.agg [(intP y100),(intP y101),(intP y102)]))] [] 3 (.p (intP y100)) [],_,_,0≤(i:Int)∧(i:Int)<(f.length:Int)∧(i*3)<(f.flatten.map intP).length,_]) (by kernel_rfl) (gc h4 (gc h3 (gc (FV.fc (sn208_p0 (y0:=y100) (y1:=y101) (y2:=y102)) rfl) (gc (fl_load (i:=i) h2 h1) (gc (fl_le (i:=i) h2 h1) (gc (ix_fl (k:=3) (i:=(i:Int)) (by decide) h2 (Int.natCast_nonneg _) h1) (gc (q_lt h0) gn)))))))
  exact raw.cast (by rw [eo'n,eo'c])
theorem sl208_L0_p1{f:List (List Int)}{lo hi:Int}{i:Nat}{o:List Int}(h0:(f.length:Int)≤(i:Int)):CodeOK Tryz.prog 0 zZ1c1 (sl208_S0 f lo hi i o.length (o.map intP)) (.exit 0) (sl208_S0 f lo hi i o.length (o.map intP)):=by
  exact CodeOK.fin (g:=⟨(rng [(0,2),(3,1),(6,2),(11,11)]),[0,1],[],[]⟩) (o:=[bF]) (l:=[_]) (by kernel_rfl) (gc (q_ltF h0) gn)
theorem sn209_p0{y0 y1 y2:Int}{base:Nat}:FV Tryz.prog 209 [(.p (.agg [(intP y0),(intP y1),(intP y2)]))] base (.p (intP y2)) []:=by
  exact FV.fin Tryz.func209 rfl (o:=[]) (l:=[]) (by kernel_rfl) (gn)
def sl209_S0(f:List (List Int))(lo:Int)(hi:Int)(i:Nat)(on:Nat)(oc:List PV):St:=⟨fr 23 [(2,(.ptr 0 0)),(4,(.p nilS)),(5,(.own 1)),(8,(.p (.sl f.length (f.flatten.map intP)))),(9,(.p (intP (f.length:Int)))),(10,(.p (intP (i:Int))))],[some (.box 203 [(.fn 209 [] []),(.p (intP lo)),(.p (intP hi))]),some (.row 3 on oc)]⟩
theorem sl209_p0{f:List (List Int)}{lo hi:Int}{i'0:Nat}{o'1:List Int}(hl0:LoopOK Tryz.prog 0 zZ1c1 (sl209_S0 f lo hi 0 0 []) (.exit 0) (sl209_S0 f lo hi i'0 o'1.length (o'1.map intP))){base:Nat}:FV Tryz.prog 185 [(.agg [(.fn 209 [] []),(.p (intP lo)),(.p (intP hi))]),(.p (.sl f.length (f.flatten.map intP)))] base (.own base) [(base,(.row 3 o'1.length (o'1.map intP)))]:=by
  exact FV.fin Tryz.func185 rfl (o:=[.k 8 ⟨(rng [(0,2),(3,1),(6,2),(11,11)]),[0,1],[],[(5,3)]⟩ (.exit 0) (sl209_S0 f lo hi i'0 o'1.length (o'1.map intP))]) (l:=[_]) (by kernel_rfl) (gc hl0.code gn)
theorem sl209_L0_p0{f:List (List Int)}{lo hi:Int}{i:Nat}{o:List Int}{y100 y101 y102:Int}{i':Nat}{o':List Int}(h0:(i:Int)<(f.length:Int))(h1:f[i]? = some [y100,y101,y102])(h2:uni 3 f)(h3:[(intP y102)].length=1*1∧o.length+1≤1000000)(h4:inR (((i+1):Nat):Int))(ei':i'=(i+1))(eo'n:o'.length=(o.length+1))(eo'c:o'.map intP=((o.map intP)++[(intP y102)])):CodeOK Tryz.prog 0 zZ1c1 (sl209_S0 f lo hi i o.length (o.map intP)) .normal (sl209_S0 f lo hi i' o'.length (o'.map intP)):=by
  subst ei'
  have raw:CodeOK Tryz.prog 0 zZ1c1 (sl209_S0 f lo hi i o.length (o.map intP)) .normal (sl209_S0 f lo hi (i+1) (o.length+1) ((o.map intP)++[(intP y102)])):=CodeOK.fin (g:=⟨(rng [(0,2),(3,1),(6,2),(11,11)]),[0,4],[],[]⟩) (o:=[bT,.x (.agg [(intP y100),(intP y101),(intP y102)]),.c (.p (intP y102)) []]) (l:=[_,_,FC Tryz.prog 209 [(.p (.agg [(intP y100),(intP y101),(intP y102)]))] [] 3 (.p (intP y102)) [],_,_,0≤(i:Int)∧(i:Int)<(f.length:Int)∧(i*3)<(f.flatten.map intP).length,_]) (by kernel_rfl) (gc h4 (gc h3 (gc (FV.fc (sn209_p0 (y0:=y100) (y1:=y101) (y2:=y102)) rfl) (gc (fl_load (i:=i) h2 h1) (gc (fl_le (i:=i) h2 h1) (gc (ix_fl (k:=3) (i:=(i:Int)) (by decide) h2 (Int.natCast_nonneg _) h1) (gc (q_lt h0) gn)))))))
  exact raw.cast (by rw [eo'n,eo'c])
theorem sl209_L0_p1{f:List (List Int)}{lo hi:Int}{i:Nat}{o:List Int}(h0:(f.length:Int)≤(i:Int)):CodeOK Tryz.prog 0 zZ1c1 (sl209_S0 f lo hi i o.length (o.map intP)) (.exit 0) (sl209_S0 f lo hi i o.length (o.map intP)):=by
  exact CodeOK.fin (g:=⟨(rng [(0,2),(3,1),(6,2),(11,11)]),[0,1],[],[]⟩) (o:=[bF]) (l:=[_]) (by kernel_rfl) (gc (q_ltF h0) gn)
theorem sn210_p0{y0 y1 y2:Int}{base:Nat}:FV Tryz.prog 210 [(.p (.agg [(intP y0),(intP y1),(intP y2)]))] base (.p (intP y1)) []:=by
  exact FV.fin Tryz.func210 rfl (o:=[]) (l:=[]) (by kernel_rfl) (gn)
def sl210_S0(f:List (List Int))(lo:Int)(hi:Int)(i:Nat)(on:Nat)(oc:List PV):St:=⟨fr 23 [(2,(.ptr 0 0)),(4,(.p nilS)),(5,(.own 1)),(8,(.p (.sl f.length (f.flatten.map intP)))),(9,(.p (intP (f.length:Int)))),(10,(.p (intP (i:Int))))],[some (.box 203 [(.fn 210 [] []),(.p (intP lo)),(.p (intP hi))]),some (.row 3 on oc)]⟩
theorem sl210_p0{f:List (List Int)}{lo hi:Int}{i'0:Nat}{o'1:List Int}(hl0:LoopOK Tryz.prog 0 zZ1c1 (sl210_S0 f lo hi 0 0 []) (.exit 0) (sl210_S0 f lo hi i'0 o'1.length (o'1.map intP))){base:Nat}:FV Tryz.prog 185 [(.agg [(.fn 210 [] []),(.p (intP lo)),(.p (intP hi))]),(.p (.sl f.length (f.flatten.map intP)))] base (.own base) [(base,(.row 3 o'1.length (o'1.map intP)))]:=by
  exact FV.fin Tryz.func185 rfl (o:=[.k 8 ⟨(rng [(0,2),(3,1),(6,2),(11,11)]),[0,1],[],[(5,3)]⟩ (.exit 0) (sl210_S0 f lo hi i'0 o'1.length (o'1.map intP))]) (l:=[_]) (by kernel_rfl) (gc hl0.code gn)
theorem sl210_L0_p0{f:List (List Int)}{lo hi:Int}{i:Nat}{o:List Int}{y100 y101 y102:Int}{i':Nat}{o':List Int}(h0:(i:Int)<(f.length:Int))(h1:f[i]? = some [y100,y101,y102])(h2:uni 3 f)(h3:[(intP y101)].length=1*1∧o.length+1≤1000000)(h4:inR (((i+1):Nat):Int))(ei':i'=(i+1))(eo'n:o'.length=(o.length+1))(eo'c:o'.map intP=((o.map intP)++[(intP y101)])):CodeOK Tryz.prog 0 zZ1c1 (sl210_S0 f lo hi i o.length (o.map intP)) .normal (sl210_S0 f lo hi i' o'.length (o'.map intP)):=by
  subst ei'
  have raw:CodeOK Tryz.prog 0 zZ1c1 (sl210_S0 f lo hi i o.length (o.map intP)) .normal (sl210_S0 f lo hi (i+1) (o.length+1) ((o.map intP)++[(intP y101)])):=CodeOK.fin (g:=⟨(rng [(0,2),(3,1),(6,2),(11,11)]),[0,4],[],[]⟩) (o:=[bT,.x (.agg [(intP y100),(intP y101),(intP y102)]),.c (.p (intP y101)) []]) (l:=[_,_,FC Tryz.prog 210 [(.p (.agg [(intP y100),(intP y101),(intP y102)]))] [] 3 (.p (intP y101)) [],_,_,0≤(i:Int)∧(i:Int)<(f.length:Int)∧(i*3)<(f.flatten.map intP).length,_]) (by kernel_rfl) (gc h4 (gc h3 (gc (FV.fc (sn210_p0 (y0:=y100) (y1:=y101) (y2:=y102)) rfl) (gc (fl_load (i:=i) h2 h1) (gc (fl_le (i:=i) h2 h1) (gc (ix_fl (k:=3) (i:=(i:Int)) (by decide) h2 (Int.natCast_nonneg _) h1) (gc (q_lt h0) gn)))))))
  exact raw.cast (by rw [eo'n,eo'c])
theorem sl210_L0_p1{f:List (List Int)}{lo hi:Int}{i:Nat}{o:List Int}(h0:(f.length:Int)≤(i:Int)):CodeOK Tryz.prog 0 zZ1c1 (sl210_S0 f lo hi i o.length (o.map intP)) (.exit 0) (sl210_S0 f lo hi i o.length (o.map intP)):=by
  exact CodeOK.fin (g:=⟨(rng [(0,2),(3,1),(6,2),(11,11)]),[0,1],[],[]⟩) (o:=[bF]) (l:=[_]) (by kernel_rfl) (gc (q_ltF h0) gn)
def stw_S0(l:List Int)(i:Nat)(me:List (Value × PV))(mk:Nat):St:=⟨fr 19 [(3,(.mp 0)),(7,(.p (intsP l))),(8,(.p (intP (l.length:Int)))),(9,(.p (intP (i:Int))))],[some (.mp me mk)]⟩
theorem stw_p0{l:List Int}{i'0:Nat}{m'1:List Int}(hl0:LoopOK Tryz.prog 0 zZ1c2 (stw_S0 l 0 [] 0) (.exit 0) (stw_S0 l i'0 (seenE m'1) m'1.length)){base:Nat}:FV Tryz.prog 187 [(.p (intsP l))] base (.p (blP false)) []:=by
  exact FV.fin Tryz.func187 rfl (o:=[.k 8 ⟨(rng [(0,3),(4,3),(10,9)]),[0],[],[]⟩ (.exit 0) (stw_S0 l i'0 (seenE m'1) m'1.length)]) (l:=[_]) (by kernel_rfl) (gc hl0.code gn)
theorem stw_L0_p0{l:List Int}{i:Nat}{m:List Int}{x100:Int}{i':Nat}{m':List Int}(h0:(i:Int)<(l.length:Int))(h1:l[i]? = some x100)(h2:KeysOK .i64 (seenE m) (.int .i64 x100))(h3:(hitB (seenE m) (.int .i64 x100))=false)(h4:inR (((i+1):Nat):Int))(ei':i'=(i+1))(em'e:seenE m'=((seenE m)++[((.int .i64 x100),(blP true))]))(em'k:m'.length=(m.length+1)):CodeOK Tryz.prog 0 zZ1c2 (stw_S0 l i (seenE m) m.length) .normal (stw_S0 l i' (seenE m') m'.length):=by
  subst ei'
  have raw:CodeOK Tryz.prog 0 zZ1c2 (stw_S0 l i (seenE m) m.length) .normal (stw_S0 l (i+1) ((seenE m)++[((.int .i64 x100),(blP true))]) (m.length+1)):=CodeOK.fin (g:=⟨(rng [(0,3),(4,3),(10,9)]),[0],[],[]⟩) (o:=[bT,.x (intP x100),bF,bF,bF]) (l:=[_,_,_,false=false,_,_,_,_,_]) (by kernel_rfl) (gc h4 (gc h3 (gc h2 (gc rfl (gc h3 (gc h2 (gc (atm intP h1) (gc (ixn intP h1) (gc (q_lt h0) gn)))))))))
  exact raw.cast (by rw [em'e,em'k])
theorem stw_L0_p1{l:List Int}{i:Nat}{m:List Int}(h0:(l.length:Int)≤(i:Int)):CodeOK Tryz.prog 0 zZ1c2 (stw_S0 l i (seenE m) m.length) (.exit 0) (stw_S0 l i (seenE m) m.length):=by
  exact CodeOK.fin (g:=⟨(rng [(0,3),(4,3),(10,9)]),[0],[],[]⟩) (o:=[bF]) (l:=[_]) (by kernel_rfl) (gc (q_ltF h0) gn)
def colM(f:List (List Int))(j:Nat):List Int:=f.map fun x=>x.getD j 0
theorem len3{y:List Int}(h:y.length=3):∃ a b c,y=[a,b,c]:=by
  match y,h with
  | [a,b,c],_=>exact ⟨a,b,c,rfl⟩
theorem sl208_ok(f:List (List Int))(lo hi:Int)(h:uni 3 f∧f.length≤1000){base:Nat}:FV Tryz.prog 185 [.agg [.fn 208 [] [],.p (intP lo),.p (intP hi)],.p (.sl f.length (f.flatten.map intP))] base (.own base) [(base,.row 3 (colM f 0).length ((colM f 0).map intP))]:=by
  obtain ⟨hu,hl⟩:=h
  have L:=LoopOK.count (P:=Tryz.prog) (k:=0) (b:=zZ1c1) (e := .exit 0) (R:=sl208_S0 f lo hi f.length (colM f 0).length ((colM f 0).map intP)) f.length (fun i=>sl208_S0 f lo hi i (colM (f.take i) 0).length ((colM (f.take i) 0).map intP))
    (fun i hi'=>by
      obtain ⟨a,b,c,e⟩:=len3 (hu _ (List.getElem_mem hi'))
      have hx:f[i]? = some [a,b,c]:=by rw [List.getElem?_eq_getElem hi',e]
      have et:f.take (i+1)=f.take i++[[a,b,c]]:=by rw [List.take_add_one,hx];rfl
      exact sl208_L0_p0 (o:=colM (f.take i) 0) (o':=colM (f.take (i+1)) 0) (by omega) hx hu ⟨rfl,by simp [colM];omega⟩ (inR_nat (by omega)) rfl (by simp [colM];omega) (by rw [et];simp [colM]))
    (by rw [List.take_length];exact sl208_L0_p1 (by omega)) (by simp)
  exact sl208_p0 L
theorem sl209_ok(f:List (List Int))(lo hi:Int)(h:uni 3 f∧f.length≤1000){base:Nat}:FV Tryz.prog 185 [.agg [.fn 209 [] [],.p (intP lo),.p (intP hi)],.p (.sl f.length (f.flatten.map intP))] base (.own base) [(base,.row 3 (colM f 2).length ((colM f 2).map intP))]:=by
  obtain ⟨hu,hl⟩:=h
  have L:=LoopOK.count (P:=Tryz.prog) (k:=0) (b:=zZ1c1) (e := .exit 0) (R:=sl209_S0 f lo hi f.length (colM f 2).length ((colM f 2).map intP)) f.length (fun i=>sl209_S0 f lo hi i (colM (f.take i) 2).length ((colM (f.take i) 2).map intP))
    (fun i hi'=>by
      obtain ⟨a,b,c,e⟩:=len3 (hu _ (List.getElem_mem hi'))
      have hx:f[i]? = some [a,b,c]:=by rw [List.getElem?_eq_getElem hi',e]
      have et:f.take (i+1)=f.take i++[[a,b,c]]:=by rw [List.take_add_one,hx];rfl
      exact sl209_L0_p0 (o:=colM (f.take i) 2) (o':=colM (f.take (i+1)) 2) (by omega) hx hu ⟨rfl,by simp [colM];omega⟩ (inR_nat (by omega)) rfl (by simp [colM];omega) (by rw [et];simp [colM]))
    (by rw [List.take_length];exact sl209_L0_p1 (by omega)) (by simp)
  exact sl209_p0 L
theorem sl210_ok(f:List (List Int))(lo hi:Int)(h:uni 3 f∧f.length≤1000){base:Nat}:FV Tryz.prog 185 [.agg [.fn 210 [] [],.p (intP lo),.p (intP hi)],.p (.sl f.length (f.flatten.map intP))] base (.own base) [(base,.row 3 (colM f 1).length ((colM f 1).map intP))]:=by
  obtain ⟨hu,hl⟩:=h
  have L:=LoopOK.count (P:=Tryz.prog) (k:=0) (b:=zZ1c1) (e := .exit 0) (R:=sl210_S0 f lo hi f.length (colM f 1).length ((colM f 1).map intP)) f.length (fun i=>sl210_S0 f lo hi i (colM (f.take i) 1).length ((colM (f.take i) 1).map intP))
    (fun i hi'=>by
      obtain ⟨a,b,c,e⟩:=len3 (hu _ (List.getElem_mem hi'))
      have hx:f[i]? = some [a,b,c]:=by rw [List.getElem?_eq_getElem hi',e]
      have et:f.take (i+1)=f.take i++[[a,b,c]]:=by rw [List.take_add_one,hx];rfl
      exact sl210_L0_p0 (o:=colM (f.take i) 1) (o':=colM (f.take (i+1)) 1) (by omega) hx hu ⟨rfl,by simp [colM];omega⟩ (inR_nat (by omega)) rfl (by simp [colM];omega) (by rw [et];simp [colM]))
    (by rw [List.take_length];exact sl210_L0_p1 (by omega)) (by simp)
  exact sl210_p0 L
theorem seen_keysL{l:List Int}(hn:l.Nodup)(hb:∀ x∈l,-1000000≤x∧x≤1000000){x:Int}(hx : -1000000≤x∧x≤1000000):KeysOK .i64 (seenE l) (.int .i64 x):=by
  have kb:∀ n:Int,-1000000≤n∧n≤1000000→keyB .i64 (.int .i64 n)=true:=fun n hn=>by
    show (decide (IntKind.i64=IntKind.i64) && (Lit.int .i64 n).wf)=true
    have:(Lit.int .i64 n).wf=true:=by
      have e1:IntKind.i64.min = -9223372036854775808:=rfl
      have e2:IntKind.i64.max=9223372036854775807:=rfl
      simp only [Lit.wf,e1,e2,Bool.and_eq_true,decide_eq_true_eq]
      omega
    rw [this];rfl
  refine ⟨fun e he => ?_,kb x hx,?_⟩
  · obtain ⟨y,hy,rfl⟩:=List.mem_map.1 he
    exact kb y (hb y hy)
  · unfold seenE
    rw [List.map_map]
    have:l.map ((fun e:Value × PV=>keyI e.1) ∘ fun k=>(Value.int .i64 k,blP true))=l:=by
      conv=>rhs;rw [← List.map_id l]
      exact List.map_congr_left fun x _=>rfl
    rw [this]
    exact hn
theorem hit_none{l:List Int}{x:Int}(h:x∉l):hitB (seenE l) (.int .i64 x)=false:=by
  unfold hitB
  rw [List.any_eq_false]
  intro e he
  obtain ⟨y,hy,rfl⟩:=List.mem_map.1 he
  intro h2
  have h3:y=x:=of_decide_eq_true h2
  exact h (h3 ▸ hy)
theorem stw_ok(l:List Int)(hl:l.length≤1000)(hn:l.Nodup)(hb:∀ x∈l,-1000000≤x∧x≤1000000){base:Nat}:FV Tryz.prog 187 [.p (intsP l)] base (.p (blP false)) []:=by
  have L:=LoopOK.count (P:=Tryz.prog) (k:=0) (b:=zZ1c2) (e := .exit 0) (R:=stw_S0 l l.length (seenE l) l.length) l.length (fun i=>stw_S0 l i (seenE (l.take i)) (l.take i).length)
    (fun i hi=>by
      have hx:l[i]? = some l[i]:=List.getElem?_eq_getElem hi
      have et:l.take (i+1)=l.take i++[l[i]]:=by rw [List.take_add_one,hx];rfl
      have hnt:(l.take i).Nodup:=hn.sublist (List.take_sublist i l)
      have hno:l[i]∉l.take i:=fun hm=>by
        obtain ⟨j,hj,e⟩:=List.mem_iff_getElem.1 hm
        rw [List.length_take] at hj
        rw [List.getElem_take] at e
        exact List.pairwise_iff_getElem.1 hn j i (by omega) hi (by omega) e
      exact stw_L0_p0 (m:=l.take i) (m':=l.take (i+1)) (by omega) hx (seen_keysL hnt (fun x hx=>hb x (List.mem_of_mem_take hx)) (hb _ (List.getElem_mem hi))) (hit_none hno) (inR_nat (by omega)) rfl (by rw [et,seenE_snoc]) (by simp;omega))
    (by rw [List.take_length];exact stw_L0_p1 (by omega)) (by simp)
  exact stw_p0 L
end
section
open KL
noncomputable abbrev zZ2c0:Code:=sub (cd Tryz.f189) [1,0,0,1,0,0,1,0,0]
noncomputable abbrev zZ2c1:Code:=sub (cd Tryz.f189) [1,0,0]
noncomputable abbrev zZ2c2:Code:=sub (cd Tryz.f146) [1,1,0,1,0,0]
theorem scl_p0{f:List (List Int)}{a b y0 y1 y2 y3 y4 y5 r0:Int}(h0:f[a.toNat]? = some [y0,y1,y2])(h1:0≤a)(h2:uni 3 f)(h3:f[b.toNat]? = some [y3,y4,y5])(h4:0≤b)(er0:r0=(cmpI y2 y5)):FMM Tryz.prog 188 [(.p (intP a)),(.p (intP b)),(.ptr 0 0)] [some (.box 118 [(.p (.sl f.length (f.flatten.map intP)))])] (.p (intP r0)) [some (.box 118 [(.p (.sl f.length (f.flatten.map intP)))])]:=by
  subst er0
  exact FMM.fin (k:=1) (g:=⟨[],[],[],[]⟩) rfl Tryz.func188 rfl (o:=[.x (intP y2),.x (intP y5),.c (.p (intP (cmpI y2 y5))) []]) (l:=[_,(f.flatten.map intP)[((b.toNat*3)+2)]? = some (intP y5),0≤b∧b<(f.length:Int)∧(b.toNat*3)<(f.flatten.map intP).length,(f.flatten.map intP)[((a.toNat*3)+2)]? = some (intP y2),0≤a∧a<(f.length:Int)∧(a.toNat*3)<(f.flatten.map intP).length]) (by kernel_rfl) (gc (fk 1 (KV.cmp_ok y2 y5) rfl) (gc (fl_field (i:=b.toNat) (f:=2) h2 h3 rfl) (gc (ix_fl (k:=3) (i:=b) (by decide) h2 h4 h3) (gc (fl_field (i:=a.toNat) (f:=2) h2 h0 rfl) (gc (ix_fl (k:=3) (i:=a) (by decide) h2 h1 h0) gn)))))
theorem scl_ok(f:List (List Int))(a b:Int)(hu:uni 3 f)(ha:0≤a∧a<(f.length:Int))(hb:0≤b∧b<(f.length:Int)):FMM Tryz.prog 188 [.p (intP a),.p (intP b),.ptr 0 0] [some (.box 118 [.p (.sl f.length (f.flatten.map intP))])] (.p (intP (cmpI (rkF f a) (rkF f b)))) [some (.box 118 [.p (.sl f.length (f.flatten.map intP))])]:=by
  have h1:a.toNat<f.length:=by omega
  have h2:b.toNat<f.length:=by omega
  obtain ⟨y0,y1,y2,e1⟩:=len3 (hu _ (List.getElem_mem h1))
  obtain ⟨y3,y4,y5,e2⟩:=len3 (hu _ (List.getElem_mem h2))
  have g1:f[a.toNat]? = some [y0,y1,y2]:=by rw [List.getElem?_eq_getElem h1,e1]
  have g2:f[b.toNat]? = some [y3,y4,y5]:=by rw [List.getElem?_eq_getElem h2,e2]
  have k1:rkF f a=y2:=by unfold rkF;rw [List.getD_eq_getElem?_getD (l:=f),g1];rfl
  have k2:rkF f b=y5:=by unfold rkF;rw [List.getD_eq_getElem?_getD (l:=f),g2];rfl
  rw [k1,k2]
  exact scl_p0 g1 ha.1 hu g2 hb.1 rfl
def ltR(f:List (List Int))(a b:Int):Bool:=decide (cmpI (rkF f a) (rkF f b)<0)
def ins_S0(f:List (List Int))(l:List Int)(i:Nat)(Ln:Nat)(Lc:List PV):St:=⟨fr 53 [(0,(.own 0)),(1,(.p (intP 0))),(2,(.p (intP (l.length:Int)))),(3,(.fn 188 [] [(.ptr 1 0)])),(8,(.p (intP (i:Int))))],[some (.row 3 Ln Lc),some (.box 118 [(.p (.sl f.length (f.flatten.map intP)))])]⟩
theorem ins_p0{f:List (List Int)}{l:List Int}{i'0:Nat}{L'1:List Int}(hl0:LoopOK Tryz.prog 2 zZ2c1 (ins_S0 f l 1 l.length (l.map intP)) (.exit 0) (ins_S0 f l i'0 L'1.length (L'1.map intP))):FMM Tryz.prog 189 [(.own 0),(.p (intP 0)),(.p (intP (l.length:Int))),(.fn 188 [] [(.ptr 1 0)])] [some (.row 3 l.length (l.map intP)),some (.box 118 [(.p (.sl f.length (f.flatten.map intP)))])] (.tup []) [some (.row 3 L'1.length (L'1.map intP)),some (.box 118 [(.p (.sl f.length (f.flatten.map intP)))])]:=by
  exact FMM.fin (k:=2) (g:=⟨[],[],[],[]⟩) rfl Tryz.func189 rfl (o:=[.k 3 ⟨(rng [(4,4),(9,44)]),[],[],[]⟩ (.exit 0) (ins_S0 f l i'0 L'1.length (L'1.map intP))]) (l:=[_,inR (1:Int)]) (by kernel_rfl) (gc hl0.code (gc (by unfold inR;omega) gn))
def ins_S1(f:List (List Int))(l:List Int)(i:Nat)(j:Int)(Mn:Nat)(Mc:List PV):St:=⟨fr 53 [(0,(.own 0)),(1,(.p (intP 0))),(2,(.p (intP (l.length:Int)))),(3,(.fn 188 [] [(.ptr 1 0)])),(8,(.p (intP (i:Int)))),(9,(.p (intP j))),(12,(.p (intP (i:Int)))),(13,(.p (intP (l.length:Int)))),(14,(.p (blP (decide ((i:Int)<(l.length:Int)))))),(17,(.p (intP (i:Int))))],[some (.row 3 Mn Mc),some (.box 118 [(.p (.sl f.length (f.flatten.map intP)))])]⟩
theorem ins_L0_p0{f:List (List Int)}{l:List Int}{i:Nat}{L:List Int}{j'100:Int}{M'101:List Int}{i':Nat}{L':List Int}(h0:(i:Int)<(l.length:Int))(hl1:LoopOK Tryz.prog 2 zZ2c0 (ins_S1 f l i (i:Int) L.length (L.map intP)) (.exit 2) (ins_S1 f l i j'100 M'101.length (M'101.map intP)))(h2:inR (((i+1):Nat):Int))(ei':i'=(i+1))(eL'n:L'.length=M'101.length)(eL'c:L'.map intP=(M'101.map intP)):CodeOK Tryz.prog 2 zZ2c1 (ins_S0 f l i L.length (L.map intP)) .normal (ins_S0 f l i' L'.length (L'.map intP)):=by
  subst ei'
  have raw:CodeOK Tryz.prog 2 zZ2c1 (ins_S0 f l i L.length (L.map intP)) .normal (ins_S0 f l (i+1) M'101.length (M'101.map intP)):=CodeOK.fin (g:=⟨(rng [(4,4),(9,44)]),[],[],[]⟩) (o:=[bT,.k 5 ⟨(rng [(4,4),(10,2),(18,35)]),[],[],[]⟩ (.exit 2) (ins_S1 f l i j'100 M'101.length (M'101.map intP))]) (l:=[_,_,_]) (by kernel_rfl) (gc h2 (gc hl1.code (gc (q_lt h0) gn)))
  exact raw.cast (by rw [eL'n,eL'c])
theorem ins_L0_p1{f:List (List Int)}{l:List Int}{i:Nat}{L:List Int}(h0:(l.length:Int)≤(i:Int)):CodeOK Tryz.prog 2 zZ2c1 (ins_S0 f l i L.length (L.map intP)) (.exit 0) (ins_S0 f l i L.length (L.map intP)):=by
  exact CodeOK.fin (g:=⟨(rng [(4,4),(9,44)]),[],[],[]⟩) (o:=[bF]) (l:=[_]) (by kernel_rfl) (gc (q_ltF h0) gn)
theorem ins_L1_p0{f:List (List Int)}{l:List Int}{i:Nat}{j:Int}{M:List Int}{x200 x201 j':Int}{M':List Int}(h0:(0:Int)<j)(h1:M[j.toNat]? = some x200)(h2:0≤j)(h3:inR (j-(1:Int)))(h4:M[(j-(1:Int)).toNat]? = some x201)(h5:0≤(j-(1:Int)))(h6:uni 3 f)(h7:0≤x200∧x200<(f.length:Int))(h8:0≤x201∧x201<(f.length:Int))(h9:(cmpI (rkF f x200) (rkF f x201))<(0:Int))(h10:(j.toNat*1)<(M.map intP).length)(h11:0≤(j-(1:Int))∧(j-(1:Int))<(M.length:Int))(h12:((j-(1:Int)).toNat*1)<((M.map intP).set (j.toNat*1) (intP x201)).length)(ej':j'=(j-(1:Int)))(eM'n:M'.length=M.length)(eM'c:M'.map intP=(((M.map intP).set (j.toNat*1) (intP x201)).set ((j-(1:Int)).toNat*1) (intP x200))):CodeOK Tryz.prog 2 zZ2c0 (ins_S1 f l i j M.length (M.map intP)) .normal (ins_S1 f l i j' M'.length (M'.map intP)):=by
  subst ej'
  have raw:CodeOK Tryz.prog 2 zZ2c0 (ins_S1 f l i j M.length (M.map intP)) .normal (ins_S1 f l i (j-(1:Int)) M.length (((M.map intP).set (j.toNat*1) (intP x201)).set ((j-(1:Int)).toNat*1) (intP x200))):=CodeOK.fin (g:=⟨(rng [(4,4),(10,2),(18,35)]),[],[],[]⟩) (o:=[bT,bT,bT,bT,bT,.x (intP x200),bT,bT,bT,bT,bT,.x (intP x201),bT,.c (.p (intP (cmpI (rkF f x200) (rkF f x201)))) [(1,(.box 118 [(.p (.sl f.length (f.flatten.map intP)))]))],bT,bT,bT,.x (intP x201),.x (intP x200)]) (l:=[_,_,_,_,_,(M.map intP)[(j.toNat*1)]? = some (intP x200),_,(M.map intP)[((j-(1:Int)).toNat*1)]? = some (intP x201),_,_,_,_,_,_,FC Tryz.prog 188 [(.p (intP x200)),(.p (intP x201)),(.ptr 1 0)] [(1,(.box 118 [(.p (.sl f.length (f.flatten.map intP)))]))] 2 (.p (intP (cmpI (rkF f x200) (rkF f x201)))) [(1,(.box 118 [(.p (.sl f.length (f.flatten.map intP)))]))],_,(M.map intP)[((j-(1:Int)).toNat*1)]? = some (intP x201),_,_,_,_,_,_,_,(M.map intP)[(j.toNat*1)]? = some (intP x200),_,_,_,_,_,_]) (by kernel_rfl) (gc h3 (gc h12 (gc h11 (gc h10 (gc (ix_own (i:=j) h2 h1) (gc (at_map (i:=j.toNat) h1) (gc (ix_own (i:=j) h2 h1) (gc (at_map (i:=(j-(1:Int)).toNat) h4) (gc (ix_own (i:=(j-(1:Int))) h5 h4) (gc h3 (gc h3 (gc (q_lt h9) (gc (q_lt h0) (gc (q_lt h0) (gc (FMM.fc (ids:=[1]) (scl_ok f x200 x201 h6 h7 h8) (by kernel_rfl)) (gc (q_lt h0) (gc (at_map (i:=(j-(1:Int)).toNat) h4) (gc (q_lt h0) (gc (ix_own (i:=(j-(1:Int))) h5 h4) (gc (q_lt h0) (gc h3 (gc (q_lt h0) (gc (q_lt h0) (gc (q_lt h0) (gc (at_map (i:=j.toNat) h1) (gc (q_lt h0) (gc (ix_own (i:=j) h2 h1) (gc (q_lt h0) (gc (q_lt h0) (gc (q_lt h0) (gc (q_lt h0) gn)))))))))))))))))))))))))))))))
  exact raw.cast (by rw [eM'n,eM'c])
theorem ins_L1_p1{f:List (List Int)}{l:List Int}{i:Nat}{j:Int}{M:List Int}{x200 x201:Int}(h0:(0:Int)<j)(h1:M[j.toNat]? = some x200)(h2:0≤j)(h3:inR (j-(1:Int)))(h4:M[(j-(1:Int)).toNat]? = some x201)(h5:0≤(j-(1:Int)))(h6:uni 3 f)(h7:0≤x200∧x200<(f.length:Int))(h8:0≤x201∧x201<(f.length:Int))(h9:(0:Int)≤(cmpI (rkF f x200) (rkF f x201))):CodeOK Tryz.prog 2 zZ2c0 (ins_S1 f l i j M.length (M.map intP)) (.exit 2) (ins_S1 f l i j M.length (M.map intP)):=by
  exact CodeOK.fin (g:=⟨(rng [(4,4),(10,2),(18,35)]),[],[],[]⟩) (o:=[bT,bT,bT,bT,bT,.x (intP x200),bT,bT,bT,bT,bT,.x (intP x201),bT,.c (.p (intP (cmpI (rkF f x200) (rkF f x201)))) [(1,(.box 118 [(.p (.sl f.length (f.flatten.map intP)))]))],bT,bT,bF]) (l:=[_,_,_,FC Tryz.prog 188 [(.p (intP x200)),(.p (intP x201)),(.ptr 1 0)] [(1,(.box 118 [(.p (.sl f.length (f.flatten.map intP)))]))] 2 (.p (intP (cmpI (rkF f x200) (rkF f x201)))) [(1,(.box 118 [(.p (.sl f.length (f.flatten.map intP)))]))],_,(M.map intP)[((j-(1:Int)).toNat*1)]? = some (intP x201),_,_,_,_,_,_,_,(M.map intP)[(j.toNat*1)]? = some (intP x200),_,_,_,_,_,_]) (by kernel_rfl) (gc (q_ltF h9) (gc (q_lt h0) (gc (q_lt h0) (gc (FMM.fc (ids:=[1]) (scl_ok f x200 x201 h6 h7 h8) (by kernel_rfl)) (gc (q_lt h0) (gc (at_map (i:=(j-(1:Int)).toNat) h4) (gc (q_lt h0) (gc (ix_own (i:=(j-(1:Int))) h5 h4) (gc (q_lt h0) (gc h3 (gc (q_lt h0) (gc (q_lt h0) (gc (q_lt h0) (gc (at_map (i:=j.toNat) h1) (gc (q_lt h0) (gc (ix_own (i:=j) h2 h1) (gc (q_lt h0) (gc (q_lt h0) (gc (q_lt h0) (gc (q_lt h0) gn))))))))))))))))))))
theorem ins_L1_p2{f:List (List Int)}{l:List Int}{i:Nat}{j:Int}{M:List Int}(h0:j≤(0:Int)):CodeOK Tryz.prog 2 zZ2c0 (ins_S1 f l i j M.length (M.map intP)) (.exit 2) (ins_S1 f l i j M.length (M.map intP)):=by
  exact CodeOK.fin (g:=⟨(rng [(4,4),(10,2),(18,35)]),[],[],[]⟩) (o:=[bF,bF,bF,bF,bF,bF,bF,bF,bF,bF,bF,bF,bF]) (l:=[_,_,_,_,_,_,_,_,_,_,_,_,_]) (by kernel_rfl) (gc (q_ltF h0) (gc (q_ltF h0) (gc (q_ltF h0) (gc (q_ltF h0) (gc (q_ltF h0) (gc (q_ltF h0) (gc (q_ltF h0) (gc (q_ltF h0) (gc (q_ltF h0) (gc (q_ltF h0) (gc (q_ltF h0) (gc (q_ltF h0) (gc (q_ltF h0) gn)))))))))))))
theorem ins_in(f:List (List Int))(hu:uni 3 f)(l:List Int)(i:Nat)(A R:List Int)(hA:A.length<1000)(hi:i=A.length)(x:Int)(hb:∀ y∈A++x::R,0≤y∧y<(f.length:Int)):∀ m,m≤A.length→(∀ t (h:t<A.length),m≤t→ltR f x A[t]=true) →
    LoopOK Tryz.prog 2 zZ2c0 (ins_S1 f l i (m:Int) (mv A x m R).length ((mv A x m R).map intP)) (.exit 2) (ins_S1 f l i (insPos (ltR f) x A:Int) (ins (ltR f) A x++R).length ((ins (ltR f) A x++R).map intP)):=by
  intro m
  induction m with
  | zero =>
    intro _ hlt
    have e:=insPos_eq (ltR f) x A 0 (Nat.zero_le _) hlt (.inl rfl)
    rw [← mv_ins,e]
    exact .exit (ins_L1_p2 (by simp)) (by simp)
  | succ m ih =>
    intro hm hlt
    have hy:=List.getElem?_eq_getElem (show m<A.length by omega)
    have hby:=hb A[m] (List.mem_append_left _ (List.getElem_mem _))
    have hbx:=hb x (List.mem_append_right _ List.mem_cons_self)
    generalize A[m]=y at hy hby
    have e1:((m+1:Nat):Int).toNat=m+1:=by omega
    have e2:(((m+1:Nat):Int)-1).toNat=m:=by omega
    have hl:=mv_length A x (m+1) R hm
    have g1:(mv A x (m+1) R)[m+1]? = some x:=by rw [mv_get A _ _ R hm];simp
    have g2:(mv A x (m+1) R)[m]? = some y:=by rw [mv_get A _ _ R hm,if_pos (by omega)];exact hy
    by_cases hc:cmpI (rkF f x) (rkF f y)<0
    · have hsw:=mv_swap A x (m+1) R hm (by omega) y (by simpa using hy)
      rw [Nat.add_sub_cancel] at hsw
      refine .step (ins_L1_p0 (j:=((m+1:Nat):Int)) (j':=(m:Int)) (M:=mv A x (m+1) R) (M':=mv A x m R) (by omega) (by rw [e1];exact g1) (by omega) (by unfold inR;omega) (by rw [e2];exact g2) (by omega) hu hbx hby hc (by rw [e1];simp;omega) ⟨by omega,by omega⟩ (by rw [e2];simp;omega) (by omega) (by rw [hl,mv_length A _ _ R (by omega)]) ?_) (ih (by omega) fun t ht h1 => ?_)
      · rw [e1,e2,Nat.mul_one,Nat.mul_one,← List.map_set,← List.map_set,hsw]
      · by_cases h2:t=m
        · subst h2
          have h3:=hy
          rw [List.getElem?_eq_getElem ht,Option.some.injEq] at h3
          rw [h3]
          simpa [ltR] using hc
        · exact hlt t ht (by omega)
    · have e:=insPos_eq (ltR f) x A (m+1) hm hlt (.inr ⟨y,by simpa using hy,by simpa [ltR] using hc⟩)
      rw [← mv_ins,e]
      exact .exit (ins_L1_p1 (by omega) (by rw [e1];exact g1) (by omega) (by unfold inR;omega) (by rw [e2];exact g2) (by omega) hu hbx hby (by omega)) (by simp)
theorem ins_ok(f:List (List Int))(l:List Int)(hu:uni 3 f)(hn:l.length<1000)(hb:∀ y∈l,0≤y∧y<(f.length:Int)):FMM Tryz.prog 189 [.own 0,.p (intP 0),.p (intP (l.length:Int)),.fn 188 [] [.ptr 1 0]] [some (.row 3 l.length (l.map intP)),some (.box 118 [.p (.sl f.length (f.flatten.map intP))])] (.tup []) [some (.row 3 (isort (ltR f) l).length ((isort (ltR f) l).map intP)),some (.box 118 [.p (.sl f.length (f.flatten.map intP))])]:=by
  have key:∀ d i,i+d=l.length→1≤i→LoopOK Tryz.prog 2 zZ2c1 (ins_S0 f l i (isort (ltR f) (l.take i)++l.drop i).length ((isort (ltR f) (l.take i)++l.drop i).map intP)) (.exit 0) (ins_S0 f l l.length (isort (ltR f) l).length ((isort (ltR f) l).map intP)):=by
    intro d
    induction d with
    | zero =>
      intro i hi _
      obtain rfl:i=l.length:=by omega
      rw [List.take_length,List.drop_length,List.append_nil]
      exact .exit (ins_L0_p1 (by omega)) (by simp)
    | succ d ih =>
      intro i hi h1
      have hlt:i<l.length:=by omega
      have hAl:(isort (ltR f) (l.take i)).length=i:=by rw [isort_length,List.length_take];omega
      have hdr:l.drop i=l[i]::l.drop (i+1):=List.drop_eq_getElem_cons hlt
      have hin:=ins_in f hu l i (isort (ltR f) (l.take i)) (l.drop (i+1)) (by omega) hAl.symm l[i] (by
        intro y hy
        rcases List.mem_append.1 hy with h | h
        · exact hb y (List.mem_of_mem_take ((isort_mem (ltR f) _ y).1 h))
        · rcases List.mem_cons.1 h with rfl | h
          · exact hb _ (List.getElem_mem _)
          · exact hb y (List.mem_of_mem_drop h)) i (by omega) (fun t ht h2=>by omega)
      have hmv:mv (isort (ltR f) (l.take i)) l[i] i (l.drop (i+1))=isort (ltR f) (l.take i)++l.drop i:=by
        have:=mv_end (isort (ltR f) (l.take i)) l[i] (l.drop (i+1))
        rw [hAl] at this;rw [this,hdr]
      have hsn:=isort_snoc (ltR f) l i hlt
      rw [hmv,← hsn] at hin
      exact .step (ins_L0_p0 (by omega) hin (by unfold inR;omega) rfl rfl rfl) (ih (i+1) (by omega) (by omega))
  rcases Nat.eq_zero_or_pos l.length with h0 | hp
  · have:l=[]:=List.eq_nil_of_length_eq_zero h0
    subst this
    exact ins_p0 (L'1:=[]) (LoopOK.exit (ins_L0_p1 (l:=[]) (L:=[]) (i:=1) (by simp)) (by simp))
  · have:=key (l.length-1) 1 (by omega) (by omega)
    have e1:isort (ltR f) (l.take 1)++l.drop 1=l:=by
      cases l with
      | nil=>simp at hp
      | cons x r=>simp [isort,ins,insPos]
    rw [e1] at this
    exact ins_p0 this
def pdr_S0(f:List (List Int))(l:List Int)(lim:Int)(dn:Nat)(dc:List PV):St:=⟨fr 148 [(0,(.own 0)),(1,(.p (intP 0))),(2,(.p (intP (l.length:Int)))),(3,(.p (intP lim))),(4,(.fn 188 [] [(.ptr 1 0)])),(10,(.kb true)),(11,(.kb true))],[some (.row 3 dn dc),some (.box 118 [(.p (.sl f.length (f.flatten.map intP)))])]⟩
theorem pdr_p0{f:List (List Int)}{l:List Int}{lim:Int}{d'0:List Int}(hl0:LoopOK Tryz.prog 2 (sub (cd Tryz.f154) [1,1,0,0]) (pdr_S0 f l lim l.length (l.map intP)) .ret (pdr_S0 f l lim d'0.length (d'0.map intP))):FMM Tryz.prog 154 [(.own 0),(.p (intP 0)),(.p (intP (l.length:Int))),(.p (intP lim)),(.fn 188 [] [(.ptr 1 0)])] [some (.row 3 l.length (l.map intP)),some (.box 118 [(.p (.sl f.length (f.flatten.map intP)))])] (.tup []) [some (.row 3 d'0.length (d'0.map intP)),some (.box 118 [(.p (.sl f.length (f.flatten.map intP)))])]:=by
  exact FMM.fin (k:=2) (g:=⟨[],[],[],[]⟩) rfl Tryz.func154 rfl (o:=[.k 5 ⟨(rng [(5,5),(12,136)]),[],[],[]⟩ .ret (pdr_S0 f l lim d'0.length (d'0.map intP))]) (l:=[_]) (by kernel_rfl) (gc hl0.code gn)
theorem pdr_L0_p0{f:List (List Int)}{l:List Int}{lim:Int}{d d':List Int}(h0:inR ((l.length:Int)-(0:Int)))(h1:((l.length:Int)-(0:Int))≤(12:Int))(h2:uni 3 f)(h3:d.length<1000)(h4:∀ y∈d,0≤y∧y<(f.length:Int))(h5:(l.length:Int)=(d.length:Int))(ed'n:d'.length=(isort (ltR f) d).length)(ed'c:d'.map intP=((isort (ltR f) d).map intP)):CodeOK Tryz.prog 2 (sub (cd Tryz.f154) [1,1,0,0]) (pdr_S0 f l lim d.length (d.map intP)) .ret (pdr_S0 f l lim d'.length (d'.map intP)):=by
  have raw:CodeOK Tryz.prog 2 (sub (cd Tryz.f154) [1,1,0,0]) (pdr_S0 f l lim d.length (d.map intP)) .ret (pdr_S0 f l lim ((isort (ltR f) d).length) ((isort (ltR f) d).map intP)):=CodeOK.fin (g:=⟨(rng [(5,5),(12,136)]),[],[],[]⟩) (o:=[bT,.c (.tup []) [(0,(.row 3 ((isort (ltR f) d).length) ((isort (ltR f) d).map intP))),(1,(.box 118 [(.p (.sl f.length (f.flatten.map intP)))]))]]) (l:=[FC Tryz.prog 189 [(.own 0),(.p (intP 0)),(.p (intP (l.length:Int))),(.fn 188 [] [(.ptr 1 0)])] [(0,(.row 3 d.length (d.map intP))),(1,(.box 118 [(.p (.sl f.length (f.flatten.map intP)))]))] 2 (.tup []) [(0,(.row 3 ((isort (ltR f) d).length) ((isort (ltR f) d).map intP))),(1,(.box 118 [(.p (.sl f.length (f.flatten.map intP)))]))],_,_]) (by kernel_rfl) (gc (by rw [h5];exact (FMM.fc (ids:=[0,1]) (ins_ok f d h2 h3 h4) (by kernel_rfl))) (gc (q_le h1) (gc h0 gn)))
  exact raw.cast (by rw [ed'n,ed'c])
theorem pdr_ok(f:List (List Int))(l:List Int)(lim:Int)(hu:uni 3 f)(hn:l.length≤12)(hb:∀ y∈l,0≤y∧y<(f.length:Int)):FMM Tryz.prog 154 [.own 0,.p (intP 0),.p (intP (l.length:Nat)),.p (intP lim),.fn 188 [] [.ptr 1 0]] [some (.row 3 l.length (l.map intP)),some (.box 118 [.p (.sl f.length (f.flatten.map intP))])] (.tup []) [some (.row 3 (isort (ltR f) l).length ((isort (ltR f) l).map intP)),some (.box 118 [.p (.sl f.length (f.flatten.map intP))])] :=
  pdr_p0 (.exit (pdr_L0_p0 (d:=l) (d':=isort (ltR f) l) (by unfold inR;omega) (by omega) hu (by omega) hb rfl rfl rfl) (by simp))
theorem sfr_p0{f:List (List Int)}{l:List Int}(h0:uni 3 f)(h1:l.length≤12)(h2:∀ y∈l,0≤y∧y<(f.length:Int)):FMM Tryz.prog 98 [(.own 0),(.fn 188 [] [(.ptr 1 0)])] [some (.row 3 l.length (l.map intP)),some (.box 118 [(.p (.sl f.length (f.flatten.map intP)))])] (.tup []) [some (.row 3 ((isort (ltR f) l).length) ((isort (ltR f) l).map intP)),some (.box 118 [(.p (.sl f.length (f.flatten.map intP)))])]:=by
  exact FMM.fin (k:=2) (g:=⟨[],[],[],[]⟩) rfl Tryz.func98 rfl (o:=[.c (.p (intP (Lib.bitLen ((IntKind.wrap .u64 (l.length:Int))).toNat:Int))) [],.c (.tup []) [(0,(.row 3 ((isort (ltR f) l).length) ((isort (ltR f) l).map intP))),(1,(.box 118 [(.p (.sl f.length (f.flatten.map intP)))]))]]) (l:=[FC Tryz.prog 154 [(.own 0),(.p (intP 0)),(.p (intP (l.length:Int))),(.p (intP (Lib.bitLen ((IntKind.wrap .u64 (l.length:Int))).toNat:Int))),(.fn 188 [] [(.ptr 1 0)])] [(0,(.row 3 l.length (l.map intP))),(1,(.box 118 [(.p (.sl f.length (f.flatten.map intP)))]))] 2 (.tup []) [(0,(.row 3 ((isort (ltR f) l).length) ((isort (ltR f) l).map intP))),(1,(.box 118 [(.p (.sl f.length (f.flatten.map intP)))]))],_]) (by kernel_rfl) (gc (FMM.fc (ids:=[0,1]) (pdr_ok f l (Lib.bitLen ((IntKind.wrap .u64 (l.length:Int))).toNat:Int) h0 h1 h2) (by kernel_rfl)) (gc (fk 2 (bitsLen_ok (l.length:Int)) rfl) gn))
def srk_S0(f:List (List Int))(i:Nat)(on:Nat)(oc:List PV):St:=⟨fr 22 [(1,(.ptr 0 0)),(2,(.p nilS)),(3,(.own 1)),(9,(.p (intP (f.length:Int)))),(10,(.p (intP (i:Int))))],[some (.box 118 [(.p (.sl f.length (f.flatten.map intP)))]),some (.row 3 on oc)]⟩
theorem srk_p0{f:List (List Int)}{i'0:Nat}{o'1:List Int}(h0:0≤(f.length:Int)∧(f.length:Int)≤(f.length:Int)∧(f.length:Int)≤1000000)(hl1:LoopOK Tryz.prog 0 zZ2c2 (srk_S0 f 0 f.length (List.replicate f.length (intP 0))) (.exit 0) (srk_S0 f i'0 o'1.length (o'1.map intP)))(h2:uni 3 f)(h3:o'1.length≤12)(h4:∀ y∈o'1,0≤y∧y<(f.length:Int)){base:Nat}:FV Tryz.prog 146 [(.p (.sl f.length (f.flatten.map intP)))] base (.own base) [(base,(.row 3 ((isort (ltR f) o'1).length) ((isort (ltR f) o'1).map intP)))]:=by
  exact FV.fin Tryz.func146 rfl (o:=[.k 8 ⟨(rng [(0,1),(4,5),(11,7),(20,1)]),[0,1],[],[]⟩ (.exit 0) (srk_S0 f i'0 o'1.length (o'1.map intP)),.c (.tup []) [(1,(.row 3 ((isort (ltR f) o'1).length) ((isort (ltR f) o'1).map intP))),(0,(.box 118 [(.p (.sl f.length (f.flatten.map intP)))]))]]) (l:=[FC Tryz.prog 98 [(.own 1),(.fn 188 [] [(.ptr 0 0)])] [(1,(.row 3 o'1.length (o'1.map intP))),(0,(.box 118 [(.p (.sl f.length (f.flatten.map intP)))]))] 2 (.tup []) [(1,(.row 3 ((isort (ltR f) o'1).length) ((isort (ltR f) o'1).map intP))),(0,(.box 118 [(.p (.sl f.length (f.flatten.map intP)))]))],_,_]) (by kernel_rfl) (gc (FMM.fc (ids:=[1,0]) (sfr_p0 (f:=f) (l:=o'1) h2 h3 h4) (by kernel_rfl)) (gc hl1.code (gc h0 gn)))
theorem srk_L0_p0{f:List (List Int)}{i:Nat}{o:List Int}{x100:Int}{i':Nat}{o':List Int}(h0:(i:Int)<(f.length:Int))(h1:o[i]? = some x100)(h2:(i*1)<(o.map intP).length)(h3:inR (((i+1):Nat):Int))(ei':i'=(i+1))(eo'n:o'.length=o.length)(eo'c:o'.map intP=((o.map intP).set (i*1) (intP (i:Int)))):CodeOK Tryz.prog 0 zZ2c2 (srk_S0 f i o.length (o.map intP)) .normal (srk_S0 f i' o'.length (o'.map intP)):=by
  subst ei'
  have raw:CodeOK Tryz.prog 0 zZ2c2 (srk_S0 f i o.length (o.map intP)) .normal (srk_S0 f (i+1) o.length ((o.map intP).set (i*1) (intP (i:Int)))):=CodeOK.fin (g:=⟨(rng [(0,1),(4,5),(11,7),(20,1)]),[0,1],[],[]⟩) (o:=[bT]) (l:=[_,_,_,_]) (by kernel_rfl) (gc h3 (gc h2 (gc (ix_own (i:=(i:Int)) (Int.natCast_nonneg _) h1) (gc (q_lt h0) gn))))
  exact raw.cast (by rw [eo'n,eo'c])
theorem srk_L0_p1{f:List (List Int)}{i:Nat}{o:List Int}(h0:(f.length:Int)≤(i:Int)):CodeOK Tryz.prog 0 zZ2c2 (srk_S0 f i o.length (o.map intP)) (.exit 0) (srk_S0 f i o.length (o.map intP)):=by
  exact CodeOK.fin (g:=⟨(rng [(0,1),(4,5),(11,7),(20,1)]),[0,1],[],[]⟩) (o:=[bF]) (l:=[_]) (by kernel_rfl) (gc (q_ltF h0) gn)
def fillL(n i:Nat):List Int:=upL i++List.replicate (n-i) 0
theorem fill_step{n i:Nat}(h:i<n):fillL n (i+1)=(fillL n i).set i (i:Int):=by
  unfold fillL
  have hl:(upL i).length=i:=by simp [upL]
  have e:n-i=(n-(i+1))+1:=by omega
  rw [List.set_append_right _ _ (by omega),hl,Nat.sub_self,e,List.replicate_succ,List.set_cons_zero]
  unfold upL
  rw [List.range_succ,List.map_append,List.append_assoc];rfl
theorem fill_len{n i:Nat}(h:i≤n):(fillL n i).length=n:=by unfold fillL;simp [upL];omega
theorem srk_ok(f:List (List Int))(t:List Int)(n:Nat)(h:FieldOK f t n)(hn:n≤12){base:Nat}:FV Tryz.prog 146 [.p (.sl f.length (f.flatten.map intP))] base (.own base) [(base,.row 3 t.length (t.map intP))]:=by
  have hl:=h.len
  have L:=LoopOK.count (P:=Tryz.prog) (k:=0) (b:=zZ2c2) (e := .exit 0) (R:=srk_S0 f n (upL n).length ((upL n).map intP)) n (fun i=>srk_S0 f i (fillL n i).length ((fillL n i).map intP))
    (fun i hi=>by
      have e:=fill_step hi
      have l1:=fill_len (n:=n) (i:=i) (by omega)
      exact srk_L0_p0 (o:=fillL n i) (o':=fillL n (i+1)) (x100:=(fillL n i)[i]'(by omega)) (by omega) (List.getElem?_eq_getElem (by omega)) (by simp;omega) (inR_nat (by omega)) rfl (by rw [e,List.length_set]) (by rw [e,List.map_set,Nat.mul_one]))
    (by
      have e:fillL n n=upL n:=by unfold fillL;simp
      rw [e]
      exact srk_L0_p1 (by omega)) (by simp)
  have e0:fillL n 0=List.replicate n 0:=by unfold fillL upL;simp
  rw [e0,List.map_replicate,List.length_replicate,← hl] at L
  have es:isort (ltR f) (upL n)=t:=h.sorted (isort_perm _ _) (isort_sorted (f:=rkF f) (lt:=ltR f) (fun x y=>cmp_dec _ _) _)
  have:=srk_p0 (base:=base) (o'1:=upL n) ⟨by omega,by omega,by omega⟩ (by rw [hl] at L ⊢;exact L) h.uni (by simp [upL];omega) (fun y hy=>by have:=upL_mem hy;omega)
  rw [es] at this
  exact this
end
section
open KL
noncomputable abbrev zZ3c0:Code:=sub (cd Tryz.f144) [1,1,1,0,1,0,0]
noncomputable abbrev zZ3c1:Code:=sub (cd Tryz.f144) [1,1,1,1,0,1,0,0]
theorem snm_p0{base:Nat}:FV Tryz.prog 184 [] base (.agg [(.fn 208 [] []),(.p (intP 1)),(.p (intP 999)),(.fn 209 [] []),(.p (intP 1)),(.p (intP 9999)),(.fn 210 [] []),(.p (intP 0)),(.p (intP 30))]) []:=by
  exact FV.fin Tryz.func184 rfl (o:=[]) (l:=[]) (by kernel_rfl) (gn)
def chf_S0(f:List (List Int))(j:Int):St:=⟨fr 35 [(0,(.p (.sl f.length (f.flatten.map intP)))),(3,(.ptr 0 0)),(13,(.agg [(.fn 208 [] []),(.p (intP 1)),(.p (intP 999)),(.fn 209 [] []),(.p (intP 1)),(.p (intP 9999)),(.fn 210 [] []),(.p (intP 0)),(.p (intP 30))])),(14,(.p (intP j)))],[some (.box 204 [(.fn 208 [] []),(.p (intP 1)),(.p (intP 999)),(.fn 209 [] []),(.p (intP 1)),(.p (intP 9999)),(.fn 210 [] []),(.p (intP 0)),(.p (intP 30))])]⟩
def chf_S1(f:List (List Int))(q:Int):St:=⟨fr 35 [(0,(.p (.sl f.length (f.flatten.map intP)))),(24,(.arr 0 0 2)),(25,(.p (intP 2))),(26,(.p (intP q)))],[some (.box 204 [(.fn 208 [] []),(.p (intP 1)),(.p (intP 999)),(.fn 209 [] []),(.p (intP 1)),(.p (intP 9999)),(.fn 210 [] []),(.p (intP 0)),(.p (intP 30))])]⟩
theorem chf_p1{f:List (List Int)}{j'0 q'1:Int}(h0:(within (f.length:Int) (1:Int) (60:Int))=true)(hl1:LoopOK Tryz.prog 0 zZ3c0 (chf_S0 f (0:Int)) (.exit 0) (chf_S0 f j'0))(hl2:LoopOK Tryz.prog 0 zZ3c1 (chf_S1 f (0:Int)) (.exit 2) (chf_S1 f q'1)){base:Nat}:FV Tryz.prog 144 [(.p (.sl f.length (f.flatten.map intP)))] base (.p (intP 0)) []:=by
  exact FV.fin Tryz.func144 rfl (o:=[.c (.p (blP (within (f.length:Int) (1:Int) (60:Int)))) [],bF,.c (.agg [(.fn 208 [] []),(.p (intP 1)),(.p (intP 999)),(.fn 209 [] []),(.p (intP 1)),(.p (intP 9999)),(.fn 210 [] []),(.p (intP 0)),(.p (intP 30))]) [],.k 4 ⟨(rng [(1,2),(4,3),(8,5),(15,9)]),[0],[],[]⟩ (.exit 0) (chf_S0 f j'0),.k 4 ⟨(rng [(1,23),(27,8)]),[0],[],[]⟩ (.exit 2) (chf_S1 f q'1)]) (l:=[_,0≤(0:Int)∧(0:Int)≤(2:Int)∧(2:Int)≤(3:Int)∧3≤maxLen,_,FC Tryz.prog 184 [] [] 0 (.agg [(.fn 208 [] []),(.p (intP 1)),(.p (intP 999)),(.fn 209 [] []),(.p (intP 1)),(.p (intP 9999)),(.fn 210 [] []),(.p (intP 0)),(.p (intP 30))]) [],_,_]) (by kernel_rfl) (gc hl2.code (gc (by unfold maxLen;omega) (gc hl1.code (gc (FV.fc snm_p0 (by kernel_rfl)) (gc (q_notF h0) (gc (fk 0 (sin_ok (f.length:Int) (1:Int) (60:Int)) rfl) gn))))))
theorem chfA0_p0{f:List (List Int)}(h0:uni 3 f∧f.length≤1000)(h1:(colM f 0).length≤1000)(h2:∀ x∈(colM f 0),within x (1:Int) (999:Int)=true):CodeOK Tryz.prog 0 zZ3c0 ⟨fr 35 [(0,(.p (.sl f.length (f.flatten.map intP)))),(3,(.ptr 0 0)),(13,(.agg [(.fn 208 [] []),(.p (intP 1)),(.p (intP 999)),(.fn 209 [] []),(.p (intP 1)),(.p (intP 9999)),(.fn 210 [] []),(.p (intP 0)),(.p (intP 30))])),(14,(.p (intP 0)))],[some (.box 204 [(.fn 208 [] []),(.p (intP 1)),(.p (intP 999)),(.fn 209 [] []),(.p (intP 1)),(.p (intP 9999)),(.fn 210 [] []),(.p (intP 0)),(.p (intP 30))])]⟩ .normal ⟨fr 35 [(0,(.p (.sl f.length (f.flatten.map intP)))),(3,(.ptr 0 0)),(13,(.agg [(.fn 208 [] []),(.p (intP 1)),(.p (intP 999)),(.fn 209 [] []),(.p (intP 1)),(.p (intP 9999)),(.fn 210 [] []),(.p (intP 0)),(.p (intP 30))])),(14,(.p (intP 1)))],[some (.box 204 [(.fn 208 [] []),(.p (intP 1)),(.p (intP 999)),(.fn 209 [] []),(.p (intP 1)),(.p (intP 9999)),(.fn 210 [] []),(.p (intP 0)),(.p (intP 30))])]⟩:=by
  exact CodeOK.fin (g:=⟨(rng [(1,2),(4,9),(15,20)]),[0],[],[]⟩) (o:=[bT,.c (.own 2) [(2,(.row 3 ((colM f 0).length) ((colM f 0).map intP)))],.c (.p (blP true)) [(2,(.row 3 ((colM f 0).length) ((colM f 0).map intP))),(1,(.box 203 [(.fn 208 [] []),(.p (intP 1)),(.p (intP 999))]))],bF]) (l:=[inR (1:Int),false=false,FC Tryz.prog 147 [(.own 2),(.fn 186 [] [(.ptr 1 0)])] [(2,(.row 3 ((colM f 0).length) ((colM f 0).map intP))),(1,(.box 203 [(.fn 208 [] []),(.p (intP 1)),(.p (intP 999))]))] 3 (.p (blP true)) [(2,(.row 3 ((colM f 0).length) ((colM f 0).map intP))),(1,(.box 203 [(.fn 208 [] []),(.p (intP 1)),(.p (intP 999))]))],_,0≤(0:Int)∧(0:Int)<(3:Int),(decide ((0:Int)<(3:Int)))=true]) (by kernel_rfl) (gc (by unfold inR;omega) (gc rfl (gc (FMM.fc (ids:=[2,1]) (sa208_ok (colM f 0) (1:Int) (999:Int) h1 h2) (by kernel_rfl)) (gc (fk 2 (sl208_ok f (1:Int) (999:Int) h0) rfl) (gc (by first | decide | simp) (gc (by first | decide | simp) gn))))))
theorem chfA1_p0{f:List (List Int)}(h0:uni 3 f∧f.length≤1000)(h1:(colM f 2).length≤1000)(h2:∀ x∈(colM f 2),within x (1:Int) (9999:Int)=true):CodeOK Tryz.prog 0 zZ3c0 ⟨fr 35 [(0,(.p (.sl f.length (f.flatten.map intP)))),(3,(.ptr 0 0)),(13,(.agg [(.fn 208 [] []),(.p (intP 1)),(.p (intP 999)),(.fn 209 [] []),(.p (intP 1)),(.p (intP 9999)),(.fn 210 [] []),(.p (intP 0)),(.p (intP 30))])),(14,(.p (intP 1)))],[some (.box 204 [(.fn 208 [] []),(.p (intP 1)),(.p (intP 999)),(.fn 209 [] []),(.p (intP 1)),(.p (intP 9999)),(.fn 210 [] []),(.p (intP 0)),(.p (intP 30))])]⟩ .normal ⟨fr 35 [(0,(.p (.sl f.length (f.flatten.map intP)))),(3,(.ptr 0 0)),(13,(.agg [(.fn 208 [] []),(.p (intP 1)),(.p (intP 999)),(.fn 209 [] []),(.p (intP 1)),(.p (intP 9999)),(.fn 210 [] []),(.p (intP 0)),(.p (intP 30))])),(14,(.p (intP 2)))],[some (.box 204 [(.fn 208 [] []),(.p (intP 1)),(.p (intP 999)),(.fn 209 [] []),(.p (intP 1)),(.p (intP 9999)),(.fn 210 [] []),(.p (intP 0)),(.p (intP 30))])]⟩:=by
  exact CodeOK.fin (g:=⟨(rng [(1,2),(4,9),(15,20)]),[0],[],[]⟩) (o:=[bT,.c (.own 2) [(2,(.row 3 ((colM f 2).length) ((colM f 2).map intP)))],.c (.p (blP true)) [(2,(.row 3 ((colM f 2).length) ((colM f 2).map intP))),(1,(.box 203 [(.fn 209 [] []),(.p (intP 1)),(.p (intP 9999))]))],bF]) (l:=[inR (2:Int),false=false,FC Tryz.prog 147 [(.own 2),(.fn 186 [] [(.ptr 1 0)])] [(2,(.row 3 ((colM f 2).length) ((colM f 2).map intP))),(1,(.box 203 [(.fn 209 [] []),(.p (intP 1)),(.p (intP 9999))]))] 3 (.p (blP true)) [(2,(.row 3 ((colM f 2).length) ((colM f 2).map intP))),(1,(.box 203 [(.fn 209 [] []),(.p (intP 1)),(.p (intP 9999))]))],_,0≤(1:Int)∧(1:Int)<(3:Int),(decide ((1:Int)<(3:Int)))=true]) (by kernel_rfl) (gc (by unfold inR;omega) (gc rfl (gc (FMM.fc (ids:=[2,1]) (sa209_ok (colM f 2) (1:Int) (9999:Int) h1 h2) (by kernel_rfl)) (gc (fk 2 (sl209_ok f (1:Int) (9999:Int) h0) rfl) (gc (by first | decide | simp) (gc (by first | decide | simp) gn))))))
theorem chfA2_p0{f:List (List Int)}(h0:uni 3 f∧f.length≤1000)(h1:(colM f 1).length≤1000)(h2:∀ x∈(colM f 1),within x (0:Int) (30:Int)=true):CodeOK Tryz.prog 0 zZ3c0 ⟨fr 35 [(0,(.p (.sl f.length (f.flatten.map intP)))),(3,(.ptr 0 0)),(13,(.agg [(.fn 208 [] []),(.p (intP 1)),(.p (intP 999)),(.fn 209 [] []),(.p (intP 1)),(.p (intP 9999)),(.fn 210 [] []),(.p (intP 0)),(.p (intP 30))])),(14,(.p (intP 2)))],[some (.box 204 [(.fn 208 [] []),(.p (intP 1)),(.p (intP 999)),(.fn 209 [] []),(.p (intP 1)),(.p (intP 9999)),(.fn 210 [] []),(.p (intP 0)),(.p (intP 30))])]⟩ .normal ⟨fr 35 [(0,(.p (.sl f.length (f.flatten.map intP)))),(3,(.ptr 0 0)),(13,(.agg [(.fn 208 [] []),(.p (intP 1)),(.p (intP 999)),(.fn 209 [] []),(.p (intP 1)),(.p (intP 9999)),(.fn 210 [] []),(.p (intP 0)),(.p (intP 30))])),(14,(.p (intP 3)))],[some (.box 204 [(.fn 208 [] []),(.p (intP 1)),(.p (intP 999)),(.fn 209 [] []),(.p (intP 1)),(.p (intP 9999)),(.fn 210 [] []),(.p (intP 0)),(.p (intP 30))])]⟩:=by
  exact CodeOK.fin (g:=⟨(rng [(1,2),(4,9),(15,20)]),[0],[],[]⟩) (o:=[bT,.c (.own 2) [(2,(.row 3 ((colM f 1).length) ((colM f 1).map intP)))],.c (.p (blP true)) [(2,(.row 3 ((colM f 1).length) ((colM f 1).map intP))),(1,(.box 203 [(.fn 210 [] []),(.p (intP 0)),(.p (intP 30))]))],bF]) (l:=[inR (3:Int),false=false,FC Tryz.prog 147 [(.own 2),(.fn 186 [] [(.ptr 1 0)])] [(2,(.row 3 ((colM f 1).length) ((colM f 1).map intP))),(1,(.box 203 [(.fn 210 [] []),(.p (intP 0)),(.p (intP 30))]))] 3 (.p (blP true)) [(2,(.row 3 ((colM f 1).length) ((colM f 1).map intP))),(1,(.box 203 [(.fn 210 [] []),(.p (intP 0)),(.p (intP 30))]))],_,0≤(2:Int)∧(2:Int)<(3:Int),(decide ((2:Int)<(3:Int)))=true]) (by kernel_rfl) (gc (by unfold inR;omega) (gc rfl (gc (FMM.fc (ids:=[2,1]) (sa210_ok (colM f 1) (0:Int) (30:Int) h1 h2) (by kernel_rfl)) (gc (fk 2 (sl210_ok f (0:Int) (30:Int) h0) rfl) (gc (by first | decide | simp) (gc (by first | decide | simp) gn))))))
theorem chfA3_p0{f:List (List Int)}:CodeOK Tryz.prog 0 zZ3c0 ⟨fr 35 [(0,(.p (.sl f.length (f.flatten.map intP)))),(3,(.ptr 0 0)),(13,(.agg [(.fn 208 [] []),(.p (intP 1)),(.p (intP 999)),(.fn 209 [] []),(.p (intP 1)),(.p (intP 9999)),(.fn 210 [] []),(.p (intP 0)),(.p (intP 30))])),(14,(.p (intP 3)))],[some (.box 204 [(.fn 208 [] []),(.p (intP 1)),(.p (intP 999)),(.fn 209 [] []),(.p (intP 1)),(.p (intP 9999)),(.fn 210 [] []),(.p (intP 0)),(.p (intP 30))])]⟩ (.exit 0) ⟨fr 35 [(0,(.p (.sl f.length (f.flatten.map intP)))),(3,(.ptr 0 0)),(13,(.agg [(.fn 208 [] []),(.p (intP 1)),(.p (intP 999)),(.fn 209 [] []),(.p (intP 1)),(.p (intP 9999)),(.fn 210 [] []),(.p (intP 0)),(.p (intP 30))])),(14,(.p (intP 3)))],[some (.box 204 [(.fn 208 [] []),(.p (intP 1)),(.p (intP 999)),(.fn 209 [] []),(.p (intP 1)),(.p (intP 9999)),(.fn 210 [] []),(.p (intP 0)),(.p (intP 30))])]⟩:=by
  exact CodeOK.fin (g:=⟨(rng [(1,2),(4,9),(15,20)]),[0],[],[]⟩) (o:=[bF]) (l:=[(decide ((3:Int)<(3:Int)))=false]) (by kernel_rfl) (gc (by first | decide | simp) gn)
theorem chfB0_p0{f:List (List Int)}(h0:uni 3 f∧f.length≤1000)(h1:(colM f 0).length≤1000)(h2:(colM f 0).Nodup)(h3:∀ x∈(colM f 0),-1000000≤x∧x≤1000000):CodeOK Tryz.prog 0 zZ3c1 ⟨fr 35 [(0,(.p (.sl f.length (f.flatten.map intP)))),(24,(.arr 0 0 2)),(25,(.p (intP 2))),(26,(.p (intP 0)))],[some (.box 204 [(.fn 208 [] []),(.p (intP 1)),(.p (intP 999)),(.fn 209 [] []),(.p (intP 1)),(.p (intP 9999)),(.fn 210 [] []),(.p (intP 0)),(.p (intP 30))])]⟩ .normal ⟨fr 35 [(0,(.p (.sl f.length (f.flatten.map intP)))),(24,(.arr 0 0 2)),(25,(.p (intP 2))),(26,(.p (intP 1)))],[some (.box 204 [(.fn 208 [] []),(.p (intP 1)),(.p (intP 999)),(.fn 209 [] []),(.p (intP 1)),(.p (intP 9999)),(.fn 210 [] []),(.p (intP 0)),(.p (intP 30))])]⟩:=by
  exact CodeOK.fin (g:=⟨(rng [(1,23),(27,8)]),[0],[],[]⟩) (o:=[bT,.c (.own 2) [(2,(.row 3 ((colM f 0).length) ((colM f 0).map intP)))],.c (.p (blP false)) [],bF]) (l:=[inR (1:Int),false=false,FC Tryz.prog 187 [(.own 2)] [(2,(.row 3 ((colM f 0).length) ((colM f 0).map intP)))] 3 (.p (blP false)) [],_,0≤(0:Int)∧(0:Int)<(2:Int),(decide ((0:Int)<(2:Int)))=true]) (by kernel_rfl) (gc (by unfold inR;omega) (gc rfl (gc (fv (stw_ok (colM f 0) h1 h2 h3)) (gc (fk 2 (sl208_ok f (1:Int) (999:Int) h0) rfl) (gc (by first | decide | simp) (gc (by first | decide | simp) gn))))))
theorem chfB1_p0{f:List (List Int)}(h0:uni 3 f∧f.length≤1000)(h1:(colM f 2).length≤1000)(h2:(colM f 2).Nodup)(h3:∀ x∈(colM f 2),-1000000≤x∧x≤1000000):CodeOK Tryz.prog 0 zZ3c1 ⟨fr 35 [(0,(.p (.sl f.length (f.flatten.map intP)))),(24,(.arr 0 0 2)),(25,(.p (intP 2))),(26,(.p (intP 1)))],[some (.box 204 [(.fn 208 [] []),(.p (intP 1)),(.p (intP 999)),(.fn 209 [] []),(.p (intP 1)),(.p (intP 9999)),(.fn 210 [] []),(.p (intP 0)),(.p (intP 30))])]⟩ .normal ⟨fr 35 [(0,(.p (.sl f.length (f.flatten.map intP)))),(24,(.arr 0 0 2)),(25,(.p (intP 2))),(26,(.p (intP 2)))],[some (.box 204 [(.fn 208 [] []),(.p (intP 1)),(.p (intP 999)),(.fn 209 [] []),(.p (intP 1)),(.p (intP 9999)),(.fn 210 [] []),(.p (intP 0)),(.p (intP 30))])]⟩:=by
  exact CodeOK.fin (g:=⟨(rng [(1,23),(27,8)]),[0],[],[]⟩) (o:=[bT,.c (.own 2) [(2,(.row 3 ((colM f 2).length) ((colM f 2).map intP)))],.c (.p (blP false)) [],bF]) (l:=[inR (2:Int),false=false,FC Tryz.prog 187 [(.own 2)] [(2,(.row 3 ((colM f 2).length) ((colM f 2).map intP)))] 3 (.p (blP false)) [],_,0≤(1:Int)∧(1:Int)<(2:Int),(decide ((1:Int)<(2:Int)))=true]) (by kernel_rfl) (gc (by unfold inR;omega) (gc rfl (gc (fv (stw_ok (colM f 2) h1 h2 h3)) (gc (fk 2 (sl209_ok f (1:Int) (9999:Int) h0) rfl) (gc (by first | decide | simp) (gc (by first | decide | simp) gn))))))
theorem chfB2_p0{f:List (List Int)}:CodeOK Tryz.prog 0 zZ3c1 ⟨fr 35 [(0,(.p (.sl f.length (f.flatten.map intP)))),(24,(.arr 0 0 2)),(25,(.p (intP 2))),(26,(.p (intP 2)))],[some (.box 204 [(.fn 208 [] []),(.p (intP 1)),(.p (intP 999)),(.fn 209 [] []),(.p (intP 1)),(.p (intP 9999)),(.fn 210 [] []),(.p (intP 0)),(.p (intP 30))])]⟩ (.exit 2) ⟨fr 35 [(0,(.p (.sl f.length (f.flatten.map intP)))),(24,(.arr 0 0 2)),(25,(.p (intP 2))),(26,(.p (intP 2)))],[some (.box 204 [(.fn 208 [] []),(.p (intP 1)),(.p (intP 999)),(.fn 209 [] []),(.p (intP 1)),(.p (intP 9999)),(.fn 210 [] []),(.p (intP 0)),(.p (intP 30))])]⟩:=by
  exact CodeOK.fin (g:=⟨(rng [(1,23),(27,8)]),[0],[],[]⟩) (o:=[bF]) (l:=[(decide ((2:Int)<(2:Int)))=false]) (by kernel_rfl) (gc (by first | decide | simp) gn)
namespace FieldOK
variable {f:List (List Int)} {t:List Int} {n:Nat}
theorem col_mem(h:FieldOK f t n){j:Nat}{x:Int}(hx:x∈colM f j):∃ k i:Nat,k<n∧i<n∧x=[(k:Int)+1,(k:Int).tmod 4,(i:Int)+1].getD j 0:=by
  obtain ⟨y,hy,rfl⟩:=List.mem_map.1 hx
  obtain ⟨k,hk,rfl⟩:=List.mem_iff_getElem.1 hy
  have hl:=h.len
  obtain ⟨i,hi,_,e⟩:=h.at_skier (k:=k) (by omega)
  rw [List.getElem?_eq_getElem hk,Option.some.injEq] at e
  exact ⟨k,i,by omega,hi,by rw [e]⟩
theorem col_nd0(h:FieldOK f t n):(colM f 0).Nodup:=by
  have hl:=h.len
  refine List.pairwise_iff_getElem.2 fun a b ha hb hab e => ?_
  simp only [colM,List.length_map] at ha hb
  obtain ⟨i,_,_,e1⟩:=h.at_skier (k:=a) (by omega)
  obtain ⟨j,_,_,e2⟩:=h.at_skier (k:=b) (by omega)
  rw [List.getElem?_eq_getElem ha,Option.some.injEq] at e1
  rw [List.getElem?_eq_getElem hb,Option.some.injEq] at e2
  simp only [colM,List.getElem_map,e1,e2] at e
  have:(a:Int)+1=(b:Int)+1:=e
  omega
theorem col_nd2(h:FieldOK f t n):(colM f 2).Nodup:=by
  have hl:=h.len
  refine List.pairwise_iff_getElem.2 fun a b ha hb hab e => ?_
  simp only [colM,List.length_map] at ha hb
  obtain ⟨i,_,t1,e1⟩:=h.at_skier (k:=a) (by omega)
  obtain ⟨j,_,t2,e2⟩:=h.at_skier (k:=b) (by omega)
  rw [List.getElem?_eq_getElem ha,Option.some.injEq] at e1
  rw [List.getElem?_eq_getElem hb,Option.some.injEq] at e2
  simp only [colM,List.getElem_map,e1,e2] at e
  have e3:(i:Int)+1=(j:Int)+1:=e
  have:i=j:=by omega
  subst this
  rw [t1] at t2
  have:=Option.some.inj t2
  omega
end FieldOK
theorem col_len(f:List (List Int))(j:Nat):(colM f j).length=f.length:=by simp [colM]
theorem chf_ok(f:List (List Int))(t:List Int)(n:Nat)(h:FieldOK f t n)(hn:1≤n∧n≤12){base:Nat}:FV Tryz.prog 144 [.p (.sl f.length (f.flatten.map intP))] base (.p (intP 0)) []:=by
  have hl:=h.len
  have hu:uni 3 f∧f.length≤1000:=⟨h.uni,by omega⟩
  have hc:∀ j,(colM f j).length≤1000:=fun j=>by rw [col_len];omega
  have w0:∀ x∈colM f 0,within x 1 999=true:=fun x hx=>by
    obtain ⟨k,i,hk,hi,rfl⟩:=h.col_mem hx
    refine within_iff.2 ?_
    show 1≤(k:Int)+1∧(k:Int)+1≤999
    omega
  have w2:∀ x∈colM f 2,within x 1 9999=true:=fun x hx=>by
    obtain ⟨k,i,hk,hi,rfl⟩:=h.col_mem hx
    refine within_iff.2 ?_
    show 1≤(i:Int)+1∧(i:Int)+1≤9999
    omega
  have w1:∀ x∈colM f 1,within x 0 30=true:=fun x hx=>by
    obtain ⟨k,i,hk,hi,rfl⟩:=h.col_mem hx
    refine within_iff.2 ?_
    have a1:=Int.tmod_nonneg (a:=(k:Int)) 4 (by omega)
    have a2:=Int.tmod_lt_of_pos (k:Int) (show (0:Int)<4 by omega)
    show 0≤(k:Int).tmod 4∧(k:Int).tmod 4≤30
    omega
  refine chf_p1 (j'0:=3) (q'1:=2) (within_iff.2 ⟨by omega,by omega⟩) ?_ ?_
  · exact .step (chfA0_p0 hu (hc 0) w0) (.step (chfA1_p0 hu (hc 2) w2) (.step (chfA2_p0 hu (hc 1) w1) (.exit chfA3_p0 (by simp))))
  · refine .step (chfB0_p0 hu (hc 0) h.col_nd0 fun x hx => ?_) (.step (chfB1_p0 hu (hc 2) h.col_nd2 fun x hx => ?_) (.exit chfB2_p0 (by simp)))
    · have:=within_iff.1 (w0 x hx);omega
    · have:=within_iff.1 (w2 x hx);omega
end
section
open KL
noncomputable abbrev zZ4c0:Code:=sub (cd Tryz.f88) [1,1,1,1,0,1,0,0,1,0,0,1,0,0]
noncomputable abbrev zZ4c1:Code:=sub (cd Tryz.f88) [1,1,1,1,0,1,0,0]
noncomputable abbrev zZ4c2:Code:=sub (cd Tryz.f88) [1,1,1,1,1,1,0,1,0,0]
noncomputable abbrev zZ4c3:Code:=sub (cd Tryz.f89) [1,1,1,1,1,0,1,0,0]
noncomputable abbrev zZ4c4:Code:=sub (cd Tryz.f149) [1,1,0,1,0,0]
theorem zZ4q0:inR (1:Int):=by unfold inR;omega
theorem zZ4q1:inR (2:Int):=by unfold inR;omega
theorem zZ4q2:((0:Int) != (0:Int))=false:=by first | decide | simp
theorem zZ4q3:0≤(0:Int)∧(0:Int)<(2:Int):=by first | decide | simp
theorem zZ4q4:(decide ((0:Int)<(2:Int)))=true:=by first | decide | simp
theorem zZ4q5:0≤(1:Int)∧(1:Int)<(2:Int):=by first | decide | simp
theorem zZ4q6:(decide ((1:Int)<(2:Int)))=true:=by first | decide | simp
def ssu_S0(l:List Int)(i:Nat)(a:Int):St:=⟨fr 17 [(2,(.p (intP 0))),(3,(.p (intP a))),(6,(.p (intsP l))),(7,(.p (intP (l.length:Int)))),(8,(.p (intP (i:Int))))],[]⟩
theorem ssu_p0{l:List Int}{i'0:Nat}{a'1:Int}(hl0:LoopOK Tryz.prog 0 zZ4c4 (ssu_S0 l 0 (0:Int)) (.exit 0) (ssu_S0 l i'0 a'1)){base:Nat}:FV Tryz.prog 149 [(.p (intsP l))] base (.p (intP a'1)) []:=by
  exact FV.fin Tryz.func149 rfl (o:=[.k 8 ⟨[0,1,4,5,9,10,11,12,13,14,15],[],[],[]⟩ (.exit 0) (ssu_S0 l i'0 a'1)]) (l:=[_]) (by kernel_rfl) (gc hl0.code gn)
theorem ssu_L0_p0{l:List Int}{i:Nat}{a x100:Int}{i':Nat}{a':Int}(h0:(i:Int)<(l.length:Int))(h1:l[i]? = some x100)(h2:inR (a+x100))(h3:inR (((i+1):Nat):Int))(ei':i'=(i+1))(ea':a'=(a+x100)):CodeOK Tryz.prog 0 zZ4c4 (ssu_S0 l i a) .normal (ssu_S0 l i' a'):=by
  subst ei' ea'
  exact CodeOK.fin (g:=⟨[0,1,4,5,9,10,11,12,13,14,15],[],[],[]⟩) (o:=[bT,.x (intP x100)]) (l:=[_,_,_,_,_]) (by kernel_rfl) (gc h3 (gc h2 (gc (atm intP h1) (gc (ixn intP h1) (gc (q_lt h0) gn)))))
theorem ssu_L0_p1{l:List Int}{i:Nat}{a:Int}(h0:(l.length:Int)≤(i:Int)):CodeOK Tryz.prog 0 zZ4c4 (ssu_S0 l i a) (.exit 0) (ssu_S0 l i a):=by
  exact CodeOK.fin (g:=⟨[0,1,4,5,9,10,11,12,13,14,15],[],[],[]⟩) (o:=[bF]) (l:=[_]) (by kernel_rfl) (gc (q_ltF h0) gn)
def sbx_S0(f:List (List Int))(lanes:Int)(k:Int)(rwn:Nat)(rwc:List PV):St:=⟨fr 85 [(0,(.p (.sl f.length (f.flatten.map intP)))),(1,(.p (intP lanes))),(4,(.p nilS)),(5,(.p (intP 0))),(7,(.own 0)),(8,(.p (intP k)))],[some (.row 3 rwn rwc)]⟩
def sbx_S2(f:List (List Int))(t:List Int)(lanes:Int)(rw'1:List Int)(i:Nat)(on:Nat)(oc:List PV):St:=⟨fr 85 [(0,(.p (.sl f.length (f.flatten.map intP)))),(1,(.p (intP lanes))),(4,(.p nilS)),(5,(.p (intP 0))),(7,(.own 0)),(11,(.own 2)),(57,(.own 1)),(58,(.p (intP (t.length:Int)))),(59,(.p (intP (i:Int))))],[some (.row 3 rw'1.length (rw'1.map intP)),some (.row 3 t.length (t.map intP)),some (.row 126 on oc)]⟩
theorem sbx_p1{f:List (List Int)}{t:List Int}{n:Nat}{lanes k'0:Int}{rw'1:List Int}{i'2:Nat}{o'3:List (List Int)}(h0:FieldOK f t n)(h1:1≤n∧n≤12)(h2:(within lanes (1:Int) (20:Int))=true)(h3:inR (lanes+(1:Int)))(h4:inR ((lanes+(1:Int)).tdiv (2:Int)))(hl5:LoopOK Tryz.prog 0 zZ4c1 (sbx_S0 f lanes (1:Int) 1 [(intP ((lanes+(1:Int)).tdiv (2:Int)))]) (.exit 1) (sbx_S0 f lanes k'0 rw'1.length (rw'1.map intP)))(hl6:LoopOK Tryz.prog 0 zZ4c2 (sbx_S2 f t lanes rw'1 0 0 []) (.exit 5) (sbx_S2 f t lanes rw'1 i'2 o'3.length (o'3.flatten.map intP))){base:Nat}:FV Tryz.prog 88 [(.p (.sl f.length (f.flatten.map intP))),(.p (intP lanes))] base (.tup [(.p (.sl o'3.length (o'3.flatten.map intP))),(.p (intP 0))]) []:=by
  exact FV.frz (FMM.fin (k:=0) (g:=⟨[],[],[2],[]⟩) rfl Tryz.func88 rfl (o:=[.c (.p (intP 0)) [],bF,.c (.p (blP (within lanes (1:Int) (20:Int)))) [],bF,.k 6 ⟨(rng [(2,2),(6,1),(9,2),(14,42)]),[0],[],[]⟩ (.exit 1) (sbx_S0 f lanes k'0 rw'1.length (rw'1.map intP)),.c (.own 1) [(1,(.row 3 t.length (t.map intP)))],.k 1 ⟨(rng [(2,2),(6,1),(8,3),(12,45),(60,24)]),[0,1,2],[],[(11,126)]⟩ (.exit 5) (sbx_S2 f t lanes rw'1 i'2 o'3.length (o'3.flatten.map intP))]) (l:=[_,_,_,_,(2:Int)≠0,_,_,_,_,_]) (by kernel_rfl) (gc hl6.code (gc (fk 1 (srk_ok f t n h0 (And.right h1)) rfl) (gc hl5.code (gc h4 (gc (by first | decide | simp) (gc h3 (gc (q_notF h2) (gc (fk 0 (sin_ok lanes (1:Int) (20:Int)) rfl) (gc zZ4q2 (gc (fk 0 (chf_ok f t n h0 h1) rfl) gn))))))))))) (by kernel_rfl)
def sbx_S1(f:List (List Int))(lanes:Int)(k:Int)(x100:Int)(j:Int)(r2n:Nat)(r2c:List PV):St:=⟨fr 85 [(0,(.p (.sl f.length (f.flatten.map intP)))),(1,(.p (intP lanes))),(4,(.p nilS)),(5,(.p (intP 0))),(7,(.own 0)),(8,(.p (intP k))),(44,(.p (.agg [(intP (x100+k)),(intP (x100-k))]))),(45,(.p (intP j)))],[some (.row 3 r2n r2c)]⟩
theorem sbx_L0_p0{f:List (List Int)}{lanes k:Int}{rw:List Int}{x100 j'101:Int}{r2'102:List Int}{k':Int}{rw':List Int}(h0:(rw.length:Int)<lanes)(h1:rw[0]? = some x100)(h2:inR (x100+k))(h3:inR (x100-k))(hl4:LoopOK Tryz.prog 0 zZ4c0 (sbx_S1 f lanes k x100 (0:Int) rw.length (rw.map intP)) (.exit 3) (sbx_S1 f lanes k x100 j'101 r2'102.length (r2'102.map intP)))(h5:inR (k+(1:Int)))(ek':k'=(k+(1:Int)))(erw'n:rw'.length=r2'102.length)(erw'c:rw'.map intP=(r2'102.map intP)):CodeOK Tryz.prog 0 zZ4c1 (sbx_S0 f lanes k rw.length (rw.map intP)) .normal (sbx_S0 f lanes k' rw'.length (rw'.map intP)):=by
  subst ek'
  have raw:CodeOK Tryz.prog 0 zZ4c1 (sbx_S0 f lanes k rw.length (rw.map intP)) .normal (sbx_S0 f lanes (k+(1:Int)) r2'102.length (r2'102.map intP)):=CodeOK.fin (g:=⟨(rng [(2,2),(6,1),(9,2),(14,42)]),[0],[],[]⟩) (o:=[bT,.x (intP x100),.x (intP x100),.k 1 ⟨(rng [(2,2),(6,1),(9,2),(14,30),(46,10)]),[0],[],[]⟩ (.exit 3) (sbx_S1 f lanes k x100 j'101 r2'102.length (r2'102.map intP))]) (l:=[_,_,_,(rw.map intP)[0]? = some (intP x100),_,_,(rw.map intP)[0]? = some (intP x100),_,_]) (by kernel_rfl) (gc h5 (gc hl4.code (gc h3 (gc (at_map (i:=0) h1) (gc (ix_own (i:=(0:Int)) (by first | decide | simp) h1) (gc h2 (gc (at_map (i:=0) h1) (gc (ix_own (i:=(0:Int)) (by first | decide | simp) h1) (gc (q_lt h0) gn)))))))))
  exact raw.cast (by rw [erw'n,erw'c])
theorem sbx_L0_p1{f:List (List Int)}{lanes k:Int}{rw:List Int}(h0:lanes≤(rw.length:Int)):CodeOK Tryz.prog 0 zZ4c1 (sbx_S0 f lanes k rw.length (rw.map intP)) (.exit 1) (sbx_S0 f lanes k rw.length (rw.map intP)):=by
  exact CodeOK.fin (g:=⟨(rng [(2,2),(6,1),(9,2),(14,42)]),[0],[],[]⟩) (o:=[bF]) (l:=[_]) (by kernel_rfl) (gc (q_ltF h0) gn)
theorem sbx_L2_p0{f:List (List Int)}{t:List Int}{lanes:Int}{rw'1:List Int}{i:Nat}{o:List (List Int)}{x300 y301 y302 y303 x304:Int}{i':Nat}{o':List (List Int)}(h0:(i:Int)<(t.length:Int))(h1:t[i]? = some x300)(h2:f[x300.toNat]? = some [y301,y302,y303])(h3:0≤x300)(h4:uni 3 f)(h5:lanes≠0)(h6:inR ((i:Int).tdiv lanes))(h7:inR (((i:Int).tdiv lanes)+(1:Int)))(h8:rw'1[((i:Int).tmod lanes).toNat]? = some x304)(h9:0≤((i:Int).tmod lanes))(h10:[(intP y301),(intP (((i:Int).tdiv lanes)+(1:Int))),(intP x304)].length=1*3∧o.length+1≤1000000)(h11:inR (((i+1):Nat):Int))(ei':i'=(i+1))(eo'n:o'.length=(o.length+1))(eo'c:o'.flatten.map intP=((o.flatten.map intP)++[(intP y301),(intP (((i:Int).tdiv lanes)+(1:Int))),(intP x304)])):CodeOK Tryz.prog 0 zZ4c2 (sbx_S2 f t lanes rw'1 i o.length (o.flatten.map intP)) .normal (sbx_S2 f t lanes rw'1 i' o'.length (o'.flatten.map intP)):=by
  subst ei'
  have raw:CodeOK Tryz.prog 0 zZ4c2 (sbx_S2 f t lanes rw'1 i o.length (o.flatten.map intP)) .normal (sbx_S2 f t lanes rw'1 (i+1) (o.length+1) ((o.flatten.map intP)++[(intP y301),(intP (((i:Int).tdiv lanes)+(1:Int))),(intP x304)])):=CodeOK.fin (g:=⟨(rng [(2,2),(6,1),(8,3),(12,45),(60,24)]),[0,1,4],[],[]⟩) (o:=[bT,.x (intP x300),.x (intP y301),.x (intP x304)]) (l:=[_,_,[(intP y301),(intP (((i:Int).tdiv lanes)+(1:Int))),(intP x304)].length=3,(rw'1.map intP)[(((i:Int).tmod lanes).toNat*1)]? = some (intP x304),_,_,_,_,_,(f.flatten.map intP)[(x300.toNat*3)]? = some (intP y301),0≤x300∧x300<(f.length:Int)∧(x300.toNat*3)<(f.flatten.map intP).length,_,_,_]) (by kernel_rfl) (gc h11 (gc h10 (gc (by first | decide | simp) (gc (at_map (i:=((i:Int).tmod lanes).toNat) h8) (gc (ix_own (i:=((i:Int).tmod lanes)) h9 h8) (gc h5 (gc h7 (gc h6 (gc h5 (gc (fl_field (i:=x300.toNat) (f:=0) h4 h2 rfl) (gc (ix_fl (k:=3) (i:=x300) (by decide) h4 h3 h2) (gc (atm intP h1) (gc (ix_own (i:=(i:Int)) (Int.natCast_nonneg _) h1) (gc (q_lt h0) gn))))))))))))))
  exact raw.cast (by rw [eo'n,eo'c])
theorem sbx_L2_p1{f:List (List Int)}{t:List Int}{lanes:Int}{rw'1:List Int}{i:Nat}{o:List (List Int)}(h0:(t.length:Int)≤(i:Int)):CodeOK Tryz.prog 0 zZ4c2 (sbx_S2 f t lanes rw'1 i o.length (o.flatten.map intP)) (.exit 5) (sbx_S2 f t lanes rw'1 i o.length (o.flatten.map intP)):=by
  exact CodeOK.fin (g:=⟨(rng [(2,2),(6,1),(8,3),(12,45),(60,24)]),[0,1,2],[],[]⟩) (o:=[bF]) (l:=[_]) (by kernel_rfl) (gc (q_ltF h0) gn)
theorem sbxJ0_p0{f:List (List Int)}{lanes k:Int}{rw:List Int}{x:Int}{r:List Int}(h0:(within (x+k) (1:Int) lanes)=true)(h1:[(intP (x+k))].length=1*1∧r.length+1≤1000000):CodeOK Tryz.prog 0 zZ4c0 ⟨fr 85 [(0,(.p (.sl f.length (f.flatten.map intP)))),(1,(.p (intP lanes))),(4,(.p nilS)),(5,(.p (intP 0))),(7,(.own 0)),(8,(.p (intP k))),(44,(.p (.agg [(intP (x+k)),(intP (x-k))]))),(45,(.p (intP 0)))],[some (.row 3 r.length (r.map intP))]⟩ .normal ⟨fr 85 [(0,(.p (.sl f.length (f.flatten.map intP)))),(1,(.p (intP lanes))),(4,(.p nilS)),(5,(.p (intP 0))),(7,(.own 0)),(8,(.p (intP k))),(44,(.p (.agg [(intP (x+k)),(intP (x-k))]))),(45,(.p (intP 1)))],[some (.row 3 (r.length+1) ((r.map intP)++[(intP (x+k))]))]⟩:=by
  exact CodeOK.fin (g:=⟨(rng [(2,2),(6,1),(9,35),(46,39)]),[2],[],[]⟩) (o:=[bT,.c (.p (blP (within (x+k) (1:Int) lanes))) [],bT]) (l:=[_,_,_,_,_,_]) (by kernel_rfl) (gc zZ4q0 (gc h1 (gc h0 (gc (fk 1 (sin_ok (x+k) (1:Int) lanes) rfl) (gc zZ4q3 (gc zZ4q4 gn))))))
theorem sbxJ0_p1{f:List (List Int)}{lanes k:Int}{rw:List Int}{x:Int}{r:List Int}(h0:(within (x+k) (1:Int) lanes)=false):CodeOK Tryz.prog 0 zZ4c0 ⟨fr 85 [(0,(.p (.sl f.length (f.flatten.map intP)))),(1,(.p (intP lanes))),(4,(.p nilS)),(5,(.p (intP 0))),(7,(.own 0)),(8,(.p (intP k))),(44,(.p (.agg [(intP (x+k)),(intP (x-k))]))),(45,(.p (intP 0)))],[some (.row 3 r.length (r.map intP))]⟩ .normal ⟨fr 85 [(0,(.p (.sl f.length (f.flatten.map intP)))),(1,(.p (intP lanes))),(4,(.p nilS)),(5,(.p (intP 0))),(7,(.own 0)),(8,(.p (intP k))),(44,(.p (.agg [(intP (x+k)),(intP (x-k))]))),(45,(.p (intP 1)))],[some (.row 3 r.length (r.map intP))]⟩:=by
  exact CodeOK.fin (g:=⟨(rng [(2,2),(6,1),(9,35),(46,39)]),[0],[],[]⟩) (o:=[bT,.c (.p (blP (within (x+k) (1:Int) lanes))) [],bF]) (l:=[_,_,_,_,_]) (by kernel_rfl) (gc zZ4q0 (gc h0 (gc (fk 1 (sin_ok (x+k) (1:Int) lanes) rfl) (gc zZ4q3 (gc zZ4q4 gn)))))
theorem sbxJ1_p0{f:List (List Int)}{lanes k:Int}{rw:List Int}{x:Int}{r:List Int}(h0:(within (x-k) (1:Int) lanes)=true)(h1:[(intP (x-k))].length=1*1∧r.length+1≤1000000):CodeOK Tryz.prog 0 zZ4c0 ⟨fr 85 [(0,(.p (.sl f.length (f.flatten.map intP)))),(1,(.p (intP lanes))),(4,(.p nilS)),(5,(.p (intP 0))),(7,(.own 0)),(8,(.p (intP k))),(44,(.p (.agg [(intP (x+k)),(intP (x-k))]))),(45,(.p (intP 1)))],[some (.row 3 r.length (r.map intP))]⟩ .normal ⟨fr 85 [(0,(.p (.sl f.length (f.flatten.map intP)))),(1,(.p (intP lanes))),(4,(.p nilS)),(5,(.p (intP 0))),(7,(.own 0)),(8,(.p (intP k))),(44,(.p (.agg [(intP (x+k)),(intP (x-k))]))),(45,(.p (intP 2)))],[some (.row 3 (r.length+1) ((r.map intP)++[(intP (x-k))]))]⟩:=by
  exact CodeOK.fin (g:=⟨(rng [(2,2),(6,1),(9,35),(46,39)]),[2],[],[]⟩) (o:=[bT,.c (.p (blP (within (x-k) (1:Int) lanes))) [],bT]) (l:=[_,_,_,_,_,_]) (by kernel_rfl) (gc zZ4q1 (gc h1 (gc h0 (gc (fk 1 (sin_ok (x-k) (1:Int) lanes) rfl) (gc zZ4q5 (gc zZ4q6 gn))))))
theorem sbxJ1_p1{f:List (List Int)}{lanes k:Int}{rw:List Int}{x:Int}{r:List Int}(h0:(within (x-k) (1:Int) lanes)=false):CodeOK Tryz.prog 0 zZ4c0 ⟨fr 85 [(0,(.p (.sl f.length (f.flatten.map intP)))),(1,(.p (intP lanes))),(4,(.p nilS)),(5,(.p (intP 0))),(7,(.own 0)),(8,(.p (intP k))),(44,(.p (.agg [(intP (x+k)),(intP (x-k))]))),(45,(.p (intP 1)))],[some (.row 3 r.length (r.map intP))]⟩ .normal ⟨fr 85 [(0,(.p (.sl f.length (f.flatten.map intP)))),(1,(.p (intP lanes))),(4,(.p nilS)),(5,(.p (intP 0))),(7,(.own 0)),(8,(.p (intP k))),(44,(.p (.agg [(intP (x+k)),(intP (x-k))]))),(45,(.p (intP 2)))],[some (.row 3 r.length (r.map intP))]⟩:=by
  exact CodeOK.fin (g:=⟨(rng [(2,2),(6,1),(9,35),(46,39)]),[0],[],[]⟩) (o:=[bT,.c (.p (blP (within (x-k) (1:Int) lanes))) [],bF]) (l:=[_,_,_,_,_]) (by kernel_rfl) (gc zZ4q1 (gc h0 (gc (fk 1 (sin_ok (x-k) (1:Int) lanes) rfl) (gc zZ4q5 (gc zZ4q6 gn)))))
theorem sbxJ2_p0{f:List (List Int)}{lanes k:Int}{rw:List Int}{x:Int}{r:List Int}:CodeOK Tryz.prog 0 zZ4c0 ⟨fr 85 [(0,(.p (.sl f.length (f.flatten.map intP)))),(1,(.p (intP lanes))),(4,(.p nilS)),(5,(.p (intP 0))),(7,(.own 0)),(8,(.p (intP k))),(44,(.p (.agg [(intP (x+k)),(intP (x-k))]))),(45,(.p (intP 2)))],[some (.row 3 r.length (r.map intP))]⟩ (.exit 3) ⟨fr 85 [(0,(.p (.sl f.length (f.flatten.map intP)))),(1,(.p (intP lanes))),(4,(.p nilS)),(5,(.p (intP 0))),(7,(.own 0)),(8,(.p (intP k))),(44,(.p (.agg [(intP (x+k)),(intP (x-k))]))),(45,(.p (intP 2)))],[some (.row 3 r.length (r.map intP))]⟩:=by
  exact CodeOK.fin (g:=⟨(rng [(2,2),(6,1),(9,35),(46,39)]),[0],[],[]⟩) (o:=[bF]) (l:=[(decide ((2:Int)<(2:Int)))=false]) (by kernel_rfl) (gc (by first | decide | simp) gn)
theorem ssu_ok(l:List Int)(hl:small l.length)(hr:∀ k,inR (l.take k).sum){base:Nat}:FV Tryz.prog 149 [.p (intsP l)] base (.p (intP l.sum)) []:=by
  have h:=LoopOK.range (P:=Tryz.prog) (k:=0) (b:=zZ4c4) (e := .exit 0) (fun i a=>ssu_S0 l i a) (fun a=>ssu_S0 l l.length a) (fun a x=>a+x) (fun i a=>a=(l.take i).sum) (by simp) l (a0:=0) (by simp)
    (fun i x acc hx hI=>by
      have hi:=lt_of_at hx
      have he:(l.take (i+1)).sum=acc+x:=by
        rw [List.take_add_one,hx,hI];simp
      exact ⟨he.symm,ssu_L0_p0 (by omega) hx (he ▸ hr (i+1)) (inR_nat (by omega)) rfl rfl⟩)
    (fun acc _=>ssu_L0_p1 (by omega))
  have e:l.foldl (fun a x=>a+x) 0=l.sum:=by rw [List.sum_eq_foldl]
  rw [e] at h
  exact ssu_p0 h
def sgr_S0(n:Nat)(j:Int)(on:Nat)(oc:List PV)(lf:PV):St:=⟨fr 52 [(4,(.p nilS)),(5,(.p (intP 0))),(7,(.p lf)),(8,(.own 0)),(34,(.p (.sl 2 [(intP 1),(intP ((n:Int)-(1:Int)))]))),(35,(.p (intP 2))),(36,(.p (intP j)))],[some (.row 22 on oc)]⟩
theorem sgr_p2{f:List (List Int)}{t:List Int}{n:Nat}{j'0:Int}{o'1:List (List Int)}{lf'2:PV}(h0:FieldOK f t n)(h1:1≤n∧n≤12)(h2:(within (2:Int) (1:Int) (6:Int))=true)(h3:([(1:Int),((n:Int)-(1:Int))]:List Int).length≤1000)(h4:∀ x∈([(1:Int),((n:Int)-(1:Int))]:List Int),within x 1 60=true)(h5:small ([(1:Int),((n:Int)-(1:Int))]:List Int).length)(h6:∀ k,inR (([(1:Int),((n:Int)-(1:Int))]:List Int).take k).sum)(h7:(([(1:Int),((n:Int)-(1:Int))]:List Int).sum)=(f.length:Int))(hl8:LoopOK Tryz.prog 0 zZ4c3 (sgr_S0 n (0:Int) 0 [] (intsP t)) (.exit 1) (sgr_S0 n j'0 o'1.length (o'1.map intsP) lf'2)){base:Nat}:FV Tryz.prog 89 [(.p (.sl f.length (f.flatten.map intP))),(.p (.sl 2 [(intP 1),(intP ((n:Int)-(1:Int)))]))] base (.tup [(.p (rowsP o'1)),(.p (intP 0))]) []:=by
  exact FV.frz (FMM.fin (k:=0) (g:=⟨[],[],[0],[]⟩) rfl Tryz.func89 rfl (o:=[.c (.p (intP 0)) [],bF,.c (.p (blP (within (2:Int) (1:Int) (6:Int)))) [],bF,.c (.p (blP true)) [],bF,.c (.p (intP (([(1:Int),((n:Int)-(1:Int))]:List Int).sum))) [],bF,.c (.own 0) [(0,(.row 3 t.length (t.map intP)))],.k 6 ⟨(rng [(0,4),(6,1),(9,25),(37,14)]),[1],[0],[(8,22)]⟩ (.exit 1) (sgr_S0 n j'0 o'1.length (o'1.map intsP) lf'2)]) (l:=[_,_,_,_,false=false,_,_,_,_,_]) (by kernel_rfl) (gc hl8.code (gc (fk 0 (srk_ok f t n h0 (And.right h1)) rfl) (gc (q_neF h7) (gc (fk 0 (ssu_ok ([(1:Int),((n:Int)-(1:Int))]:List Int) h5 h6) rfl) (gc rfl (gc (fk 0 (sa148_ok ([(1:Int),((n:Int)-(1:Int))]:List Int) h3 h4) rfl) (gc (q_notF h2) (gc (fk 0 (sin_ok (2:Int) (1:Int) (6:Int)) rfl) (gc zZ4q2 (gc (fk 0 (chf_ok f t n h0 h1) rfl) gn))))))))))) (by kernel_rfl)
theorem sgrJ0_p0{f:List (List Int)}{t:List Int}{n:Nat}{u v:List Int}{lf:PV}{l0:List Int}(h0:(0:Int)<(2:Int))(h1:0≤(0:Int)∧(0:Int)<(2:Int)∧0<[(intP 1),(intP ((n:Int)-(1:Int)))].length)(h2:0≤(0:Int)∧(0:Int)≤(1:Int)∧(1:Int)≤(t.length:Int)∧(t.map intP).length=t.length*1)(h3:(1-0)=l0.length)(h4:((t.map intP).take (1*1))=l0.map intP)(h5:l0.length≤1000)(h6:[(intsP l0)].length=1*1∧0+1≤1000000)(h7:0≤(1:Int)∧(1:Int)≤(t.length:Int)∧(t.length:Int)≤(t.length:Int)∧(t.map intP).length=t.length*1):CodeOK Tryz.prog 0 zZ4c3 ⟨fr 52 [(4,(.p nilS)),(5,(.p (intP 0))),(7,(.p (intsP t))),(8,(.own 0)),(34,(.p (.sl 2 [(intP 1),(intP ((n:Int)-(1:Int)))]))),(35,(.p (intP 2))),(36,(.p (intP 0)))],[some (.row 22 0 [])]⟩ .normal ⟨fr 52 [(4,(.p nilS)),(5,(.p (intP 0))),(7,(.p (.sl (t.length-1) (((t.map intP).drop (1*1)).take ((t.length-1)*1))))),(8,(.own 0)),(34,(.p (.sl 2 [(intP 1),(intP ((n:Int)-(1:Int)))]))),(35,(.p (intP 2))),(36,(.p (intP 1)))],[some (.row 22 (0+1) [(intsP l0)])]⟩:=by
  exact CodeOK.fin (g:=⟨(rng [(0,4),(6,1),(9,25),(37,15)]),[6],[],[]⟩) (o:=[bT,.x (intP 1),.c (.own 1) [(1,(.row 3 l0.length (l0.map intP)))]]) (l:=[_,_,_,FC Tryz.prog 150 [(.p (.sl (1-0) ((t.map intP).take (1*1))))] [] 1 (.own 1) [(1,(.row 3 l0.length (l0.map intP)))],_,[(intP 1),(intP ((n:Int)-(1:Int)))][0]? = some (intP 1),_,_]) (by kernel_rfl) (gc zZ4q0 (gc h7 (gc h6 (gc (FV.fc (by rw [show ((.sl (1-0) ((t.map intP).take (1*1))):PV)=intsP l0 from sl_cast h3 h4];exact (cloneI_ok l0 h5)) rfl) (gc h2 (gc rfl (gc h1 (gc (q_lt h0) gn))))))))
theorem sgrJ1_p0{f:List (List Int)}{t:List Int}{n:Nat}{u v:List Int}{lf:PV}{l0:List Int}(h0:(1:Int)<(2:Int))(h1:0≤(1:Int)∧(1:Int)<(2:Int)∧1<[(intP 1),(intP ((n:Int)-(1:Int)))].length)(h2:0≤(0:Int)∧(0:Int)≤((n:Int)-(1:Int))∧((n:Int)-(1:Int))≤(u.length:Int)∧(u.map intP).length=u.length*1)(h3:(((n:Int)-(1:Int)).toNat-0)=l0.length)(h4:((u.map intP).take (((n:Int)-(1:Int)).toNat*1))=l0.map intP)(h5:l0.length≤1000)(h6:[(intsP l0)].length=1*1∧1+1≤1000000)(h7:0≤((n:Int)-(1:Int))∧((n:Int)-(1:Int))≤(u.length:Int)∧(u.length:Int)≤(u.length:Int)∧(u.map intP).length=u.length*1):CodeOK Tryz.prog 0 zZ4c3 ⟨fr 52 [(4,(.p nilS)),(5,(.p (intP 0))),(7,(.p (intsP u))),(8,(.own 0)),(34,(.p (.sl 2 [(intP 1),(intP ((n:Int)-(1:Int)))]))),(35,(.p (intP 2))),(36,(.p (intP 1)))],[some (.row 22 1 [(intsP v)])]⟩ .normal ⟨fr 52 [(4,(.p nilS)),(5,(.p (intP 0))),(7,(.p (.sl (u.length-((n:Int)-(1:Int)).toNat) (((u.map intP).drop (((n:Int)-(1:Int)).toNat*1)).take ((u.length-((n:Int)-(1:Int)).toNat)*1))))),(8,(.own 0)),(34,(.p (.sl 2 [(intP 1),(intP ((n:Int)-(1:Int)))]))),(35,(.p (intP 2))),(36,(.p (intP 2)))],[some (.row 22 (1+1) [(intsP v),(intsP l0)])]⟩:=by
  exact CodeOK.fin (g:=⟨(rng [(0,4),(6,1),(9,25),(37,15)]),[6],[],[]⟩) (o:=[bT,.x (intP ((n:Int)-(1:Int))),.c (.own 1) [(1,(.row 3 l0.length (l0.map intP)))]]) (l:=[_,_,_,FC Tryz.prog 150 [(.p (.sl (((n:Int)-(1:Int)).toNat-0) ((u.map intP).take (((n:Int)-(1:Int)).toNat*1))))] [] 1 (.own 1) [(1,(.row 3 l0.length (l0.map intP)))],_,[(intP 1),(intP ((n:Int)-(1:Int)))][1]? = some (intP ((n:Int)-(1:Int))),_,_]) (by kernel_rfl) (gc zZ4q1 (gc h7 (gc h6 (gc (FV.fc (by rw [show ((.sl (((n:Int)-(1:Int)).toNat-0) ((u.map intP).take (((n:Int)-(1:Int)).toNat*1))):PV)=intsP l0 from sl_cast h3 h4];exact (cloneI_ok l0 h5)) rfl) (gc h2 (gc rfl (gc h1 (gc (q_lt h0) gn))))))))
theorem sgrJ2_p0{f:List (List Int)}{t:List Int}{n:Nat}{u v:List Int}{lf:PV}(h0:(2:Int)≤(2:Int)):CodeOK Tryz.prog 0 zZ4c3 ⟨fr 52 [(4,(.p nilS)),(5,(.p (intP 0))),(7,(.p lf)),(8,(.own 0)),(34,(.p (.sl 2 [(intP 1),(intP ((n:Int)-(1:Int)))]))),(35,(.p (intP 2))),(36,(.p (intP 2)))],[some (.row 22 2 [(intsP v),(intsP u)])]⟩ (.exit 1) ⟨fr 52 [(4,(.p nilS)),(5,(.p (intP 0))),(7,(.p lf)),(8,(.own 0)),(34,(.p (.sl 2 [(intP 1),(intP ((n:Int)-(1:Int)))]))),(35,(.p (intP 2))),(36,(.p (intP 2)))],[some (.row 22 2 [(intsP v),(intsP u)])]⟩:=by
  exact CodeOK.fin (g:=⟨(rng [(0,4),(6,1),(9,25),(37,15)]),[0],[],[]⟩) (o:=[bF]) (l:=[_]) (by kernel_rfl) (gc (q_ltF h0) gn)
theorem sgr_ok(f:List (List Int))(t:List Int)(n:Nat)(h:FieldOK f t n)(hn:2≤n∧n≤12){base:Nat}:FV Tryz.prog 89 [.p (.sl f.length (f.flatten.map intP)),.p (.sl 2 [intP 1,intP ((n:Int)-1)])] base (.tup [.p (rowsP [t.take 1,t.drop 1]),.p (intP 0)]) []:=by
  have hl:=h.len
  have ht:=h.tlen
  have m1:(t.drop 1).length=n-1:=by simp;omega
  have g2:LoopOK Tryz.prog 0 zZ4c3 (sgr_S0 n 0 0 [] (intsP t)) (.exit 1) (sgr_S0 n 2 [t.take 1,t.drop 1].length ([t.take 1,t.drop 1].map intsP) (.sl ((t.drop 1).length-((n:Int)-1).toNat) ((((t.drop 1).map intP).drop (((n:Int)-1).toNat*1)).take (((t.drop 1).length-((n:Int)-1).toNat)*1)))):=by
    have e1:PV.sl (t.length-1) (((t.map intP).drop (1*1)).take ((t.length-1)*1))=intsP (t.drop 1):=by
      show _=PV.sl (t.drop 1).length ((t.drop 1).map intP)
      rw [Nat.one_mul,Nat.mul_one,List.map_drop,List.take_of_length_le (by simp),List.length_drop]
    have c0:=sgrJ0_p0 (f:=f) (n:=n) (t:=t) (l0:=t.take 1) (u:=[]) (v:=[]) (lf:=nilS) (by omega) ⟨by omega,by omega,by simp⟩ ⟨by omega,by omega,by omega,by simp⟩ (by simp;omega) (by simp) (by simp;omega) ⟨rfl,by omega⟩ ⟨by omega,by omega,by omega,by simp⟩
    rw [e1] at c0
    have e3:((n:Int)-1).toNat=n-1:=by omega
    have c1:=sgrJ1_p0 (f:=f) (n:=n) (t:=t) (u:=t.drop 1) (v:=t.take 1) (l0:=t.drop 1) (lf:=nilS) (by omega) ⟨by omega,by omega,by simp⟩ ⟨by omega,by omega,by omega,by simp⟩ (by omega) (by rw [e3,Nat.mul_one,List.take_of_length_le (by simp;omega)]) (by omega) ⟨rfl,by omega⟩ ⟨by omega,by omega,by omega,by simp⟩
    exact .step c0 (.step c1 (.exit (sgrJ2_p0 (f:=f) (t:=t) (u:=t.drop 1) (v:=t.take 1) (by omega)) (by simp)))
  refine sgr_p2 (t:=t) (n:=n) h ⟨by omega,hn.2⟩ (within_iff.2 (by omega)) (by simp) (fun x hx => ?_) (by simp [small]) (fun k => ?_) ?_ g2
  · simp only [List.mem_cons,List.not_mem_nil,or_false] at hx
    refine within_iff.2 ?_
    rcases hx with rfl | rfl <;> omega
  · rcases k with _ | _ | k
    · simp [inR]
    · simp [inR]
    · simp [inR];omega
  · simp;omega
theorem sbx_in(f:List (List Int))(lanes k:Int)(rw_:List Int)(x:Int)(hr:rw_.length≤100):LoopOK Tryz.prog 0 zZ4c0 (sbx_S1 f lanes k x 0 rw_.length (rw_.map intP)) (.exit 3) (sbx_S1 f lanes k x 2 (rw_++(if within (x+k) 1 lanes=true then [x+k] else [])++(if within (x-k) 1 lanes=true then [x-k] else [])).length ((rw_++(if within (x+k) 1 lanes=true then [x+k] else [])++(if within (x-k) 1 lanes=true then [x-k] else [])).map intP)):=by
  have stepB:∀ r:List Int,r.length≤101→LoopOK Tryz.prog 0 zZ4c0 (sbx_S1 f lanes k x 1 r.length (r.map intP)) (.exit 3) (sbx_S1 f lanes k x 2 (r++(if within (x-k) 1 lanes=true then [x-k] else [])).length ((r++(if within (x-k) 1 lanes=true then [x-k] else [])).map intP)):=fun r hr=>by
    cases b:within (x-k) 1 lanes with
    | true =>
      rw [if_pos rfl]
      have c:CodeOK Tryz.prog 0 zZ4c0 (sbx_S1 f lanes k x 1 r.length (r.map intP)) .normal (sbx_S1 f lanes k x 2 (r++[x-k]).length ((r++[x-k]).map intP)):=by
        rw [List.length_append,List.map_append]
        exact sbxJ1_p0 (rw:=[]) b ⟨rfl,by omega⟩
      exact .step c (.exit (sbxJ2_p0 (rw:=[]) (r:=r++[x-k])) (by simp))
    | false =>
      rw [if_neg (by simp),List.append_nil]
      exact .step (sbxJ1_p1 (rw:=[]) (r:=r) b) (.exit (sbxJ2_p0 (rw:=[]) (r:=r)) (by simp))
  cases a:within (x+k) 1 lanes with
  | true =>
    rw [if_pos rfl]
    have c:CodeOK Tryz.prog 0 zZ4c0 (sbx_S1 f lanes k x 0 rw_.length (rw_.map intP)) .normal (sbx_S1 f lanes k x 1 (rw_++[x+k]).length ((rw_++[x+k]).map intP)):=by
      rw [List.length_append,List.map_append]
      exact sbxJ0_p0 (rw:=[]) a ⟨rfl,by omega⟩
    exact .step c (stepB (rw_++[x+k]) (by simp;omega))
  | false =>
    rw [if_neg (by simp),List.append_nil]
    exact .step (sbxJ0_p1 (rw:=[]) (r:=rw_) a) (stepB rw_ (by omega))
theorem sbx_lanes(f:List (List Int))(lanes m:Int)(hl:1≤lanes∧lanes≤20)(hm:m=(lanes+1).tdiv 2):∀ (d:Nat) (k:Int) (rw_:List Int),lanes-rw_.length≤d→rw_[0]? = some m→1≤k→((rw_.length:Int)=2*k-1∨lanes≤rw_.length)→rw_.length≤22 →
    ∃ (k':Int) (rw':List Int),LoopOK Tryz.prog 0 zZ4c1 (sbx_S0 f lanes k rw_.length (rw_.map intP)) (.exit 1) (sbx_S0 f lanes k' rw'.length (rw'.map intP))∧lanes≤rw'.length:=by
  have hm2:lanes=2*m-1∨lanes=2*m:=by
    have h1:=Int.mul_tdiv_add_tmod (lanes+1) 2
    have h2:=Int.tmod_nonneg (a:=lanes+1) 2 (by omega)
    have h3:=Int.tmod_lt_of_pos (lanes+1) (show (0:Int)<2 by omega)
    rw [← hm] at h1
    omega
  intro d
  induction d with
  | zero =>
    intro k rw_ hd _ _ _ _
    exact ⟨k,rw_,.exit (sbx_L0_p1 (by omega)) (by simp),by omega⟩
  | succ d ih =>
    intro k rw_ hd h0 hk hi hb
    by_cases he:lanes≤rw_.length
    · exact ⟨k,rw_,.exit (sbx_L0_p1 (by omega)) (by simp),he⟩
    · have h2:(rw_.length:Int)=2*k-1:=by omega
      have hkm:k≤m:=by omega
      have L1:=sbx_in f lanes k rw_ m (by omega)
      have ha:within (m+k) 1 lanes=true:=within_iff.2 (by omega)
      rw [if_pos ha] at L1
      by_cases hkl:k<m
      · have hb2:within (m-k) 1 lanes=true:=within_iff.2 (by omega)
        rw [if_pos hb2] at L1
        obtain ⟨k',rw',L,q⟩:=ih (k+1) (rw_++[m+k]++[m-k]) (by simp;omega) (by
          cases rw_ with
          | nil=>simp at h0
          | cons a r=>simpa using h0) (by omega) (.inl (by simp;omega)) (by simp;omega)
        exact ⟨k',rw',.step (sbx_L0_p0 (r2'102:=rw_++[m+k]++[m-k]) (rw':=rw_++[m+k]++[m-k]) (by omega) h0 (by unfold inR;omega) (by unfold inR;omega) L1 (by unfold inR;omega) rfl rfl rfl) L,q⟩
      · have hb2:¬ within (m-k) 1 lanes=true:=fun h=>by have:=within_iff.1 h;omega
        rw [if_neg hb2,List.append_nil] at L1
        obtain ⟨k',rw',L,q⟩:=ih (k+1) (rw_++[m+k]) (by simp;omega) (by
          cases rw_ with
          | nil=>simp at h0
          | cons a r=>simpa using h0) (by omega) (.inr (by simp;omega)) (by simp;omega)
        exact ⟨k',rw',.step (sbx_L0_p0 (r2'102:=rw_++[m+k]) (rw':=rw_++[m+k]) (by omega) h0 (by unfold inR;omega) (by unfold inR;omega) L1 (by unfold inR;omega) rfl rfl rfl) L,q⟩
def bxL(t rw_:List Int)(lanes:Int)(i:Nat):List (List Int):=(List.range i).map fun j=>[t.getD j 0+1,(j:Int).tdiv lanes+1,rw_.getD ((j:Int).tmod lanes).toNat 0]
theorem bxL_succ(t rw_:List Int)(lanes:Int)(i:Nat):bxL t rw_ lanes (i+1)=bxL t rw_ lanes i++[[t.getD i 0+1,(i:Int).tdiv lanes+1,rw_.getD ((i:Int).tmod lanes).toNat 0]]:=by
  unfold bxL
  rw [List.range_succ,List.map_append];rfl
theorem sbx_ok(f:List (List Int))(t:List Int)(n:Nat)(lanes:Int)(h:FieldOK f t n)(hn:1≤n∧n≤12)(hl:1≤lanes∧lanes≤20):∃ o:List (List Int),o.length=n∧uni 3 o∧(∀ i,i<n→∃ y z,o[i]? = some [t.getD i 0+1,y,z])∧∀ base:Nat,FV Tryz.prog 88 [.p (.sl f.length (f.flatten.map intP)),.p (intP lanes)] base (.tup [.p (.sl o.length (o.flatten.map intP)),.p (intP 0)]) []:=by
  have ht:=h.tlen
  have hfl:=h.len
  have b1:0≤(lanes+1).tdiv 2∧(lanes+1).tdiv 2≤20:=by
    have h1:=Int.mul_tdiv_add_tmod (lanes+1) 2
    have h2:=Int.tmod_nonneg (a:=lanes+1) 2 (by omega)
    have h3:=Int.tmod_lt_of_pos (lanes+1) (show (0:Int)<2 by omega)
    omega
  obtain ⟨k',rw',L,hq⟩:=sbx_lanes f lanes _ hl rfl 20 1 [(lanes+1).tdiv 2] (by simp;omega) rfl (by omega) (.inl (by simp)) (by simp)
  have L2:=LoopOK.count (P:=Tryz.prog) (k:=0) (b:=zZ4c2) (e := .exit 5) (R:=sbx_S2 f t lanes rw' n (bxL t rw' lanes n).length ((bxL t rw' lanes n).flatten.map intP)) n (fun i=>sbx_S2 f t lanes rw' i (bxL t rw' lanes i).length ((bxL t rw' lanes i).flatten.map intP))
    (fun i hi=>by
      have hti:t[i]? = some (t[i]'(by omega)):=List.getElem?_eq_getElem (by omega)
      have hg:t.getD i 0=t[i]'(by omega):=by rw [List.getD_eq_getElem?_getD,hti];rfl
      have hx:=h.tbd (List.getElem_mem (show i<t.length by omega))
      have hf:=h.at_ i (by omega)
      have p1:=Int.tmod_nonneg (a:=(i:Int)) lanes (by omega)
      have p2:=Int.tmod_lt_of_pos (i:Int) (show (0:Int)<lanes by omega)
      have hrw:rw'[((i:Int).tmod lanes).toNat]? = some (rw'.getD ((i:Int).tmod lanes).toNat 0):=by
        rw [List.getD_eq_getElem?_getD,List.getElem?_eq_getElem (by omega)];rfl
      have d1:0≤(i:Int).tdiv lanes:=Int.tdiv_nonneg (by omega) (by omega)
      have d2:(i:Int).tdiv lanes≤i:=Int.tdiv_le_self _ (by omega)
      have hs:=bxL_succ t rw' lanes i
      have hbl:(bxL t rw' lanes i).length=i:=by simp [bxL]
      rw [hg] at hs
      exact sbx_L2_p0 (o:=bxL t rw' lanes i) (o':=bxL t rw' lanes (i+1)) (by omega) hti hf hx.1 h.uni (by omega) (by unfold inR;omega) (by unfold inR;omega) hrw p1 ⟨rfl,by omega⟩ (inR_nat (by omega)) rfl (by rw [hs];simp) (by rw [hs,List.flatten_append,List.map_append];rfl))
    (sbx_L2_p1 (by omega)) (by simp)
  refine ⟨bxL t rw' lanes n,by simp [bxL],fun x hx => ?_,fun i hi => ?_,fun base=>sbx_p1 h hn (within_iff.2 hl) (by unfold inR;omega) (by unfold inR;omega) L L2⟩
  · obtain ⟨j,_,rfl⟩:=List.mem_map.1 hx
    rfl
  · refine ⟨(i:Int).tdiv lanes+1,rw'.getD ((i:Int).tmod lanes).toNat 0,?_⟩
    unfold bxL
    rw [List.getElem?_map,List.getElem?_range hi];rfl
end
section
end
section
open KL
def outB(n a b:Int):Bool:=decide (n<a) || decide (b<n)
theorem falls_any(pts:List Int):KL.fallsB pts = !((List.range (pts.length-1)).any fun j=>decide (pts.getD j 0<pts.getD (j+1) 0)):=by
  unfold KL.fallsB KL.sortedB
  rw [Bool.eq_iff_iff]
  simp only [decide_eq_true_eq,Bool.not_eq_true',List.any_eq_false,List.mem_range,decide_eq_true_eq,Int.not_lt]
  constructor
  · intro h j hj
    have:=h j hj
    unfold KL.cmpDown KL.cmpI at this
    split at this
    · omega
    · split at this <;> omega
  · intro h j hj
    have:=h j hj
    unfold KL.cmpDown KL.cmpI
    repeat' split
    all_goals omega
end
section
open KL
def cntI(c:Cup)(s:Nat)(p:Int):Nat:=c.done.countP fun r=>decide (r.getD s 0=p)
def grtB(c:Cup)(k:Int):Bool:=(decide (k<c.sk) && decide (c.sk≤12)) || decide (65<c.pts.length) || decide (25<c.done.length) || c.done.any fun r=>decide (16<r.length)
end
section
open KL
theorem totalsUp_succ(c:Cup)(n:Nat):KL.totalsUp c (n+1)=KL.totalsUp c n++[totalM c n]:=by
  unfold KL.totalsUp
  rw [List.range_succ,List.map_append];rfl
end
section
open KL
theorem tableM_uni(c:Cup):uni 4 (tableM c):=by rw [table_ref];exact tabR_uni c _
end
section
open KL
noncomputable abbrev zZ5c0:Code:=sub (cd Tryz.f18) [1,1,1,1,1,0,1,0,0]
noncomputable abbrev zZ5c1:Code:=sub (cd Tryz.f18) [1,1,1,1,1,1,1,1,1,0,1,0,0]
theorem zZ5q0:((0:Int) != (0:Int))=false:=by first | decide | simp
def csd_S0(w:Int)(c0:Cup)(i:Nat)(gn:Nat)(gc:List PV):St:=⟨fr 168 [(1,(.p (.v (.int .u8 w)))),(5,(.ptr 0 0)),(6,(.p (.sl ((tableM c0).length) ((tableM c0).flatten.map intP)))),(7,(.p (intP 0))),(8,(.own 1)),(36,(.p (.sl ((tableM c0).length) ((tableM c0).flatten.map intP)))),(37,(.p (intP (((tableM c0).length:Nat):Int)))),(38,(.p (intP (i:Int))))],[some (.box 25 [(.p (intP c0.sk)),(.p (intP c0.ra)),(.p (intP c0.be)),(.p (intsP c0.pts)),(.p (rowsP c0.done))]),some (.row 120 gn gc)]⟩
def csd_S1(c0:Cup)(o5:List (List Int))(q6:List Int)(q7:List Int)(i:Nat):St:=⟨fr 168 [(11,(.p (.sl o5.length (o5.flatten.map intP)))),(12,(.p (.sl 2 [(intsP q6),(intsP q7)]))),(120,(.p (.sl ((tableM c0).length) ((tableM c0).flatten.map intP)))),(121,(.p (intP (((tableM c0).length:Nat):Int)))),(122,(.p (intP (i:Int))))],[]⟩
theorem csd_p4{l:List Int}{w:Int}{c0:Cup}{m1 t2:Int}{i'3:Nat}{g'4 o5:List (List Int)}{q6 q7:List Int}{i'8:Nat}(h0:0≤(0:Int)∧(0:Int)≤100000)(h1:2≤(12:Int)∧(12:Int)≤12)(h2:1≤(8:Int)∧(8:Int)≤20)(h3:madeM (12:Int) (8:Int) l (0:Int) (17:Int)=(c0,m1,t2))(h4:KL.Valid c0)(h5:(((tableM c0).length:Nat):Int)=c0.sk)(h6:0≤c0.sk∧c0.sk≤c0.sk∧c0.sk≤1000000)(hl7:LoopOK Tryz.prog 0 zZ5c0 (csd_S0 w c0 0 c0.sk.toNat ((List.replicate c0.sk.toNat [(intP 0),(intP 0),(intP 0)]).flatten)) (.exit 0) (csd_S0 w c0 i'3 g'4.length (g'4.flatten.map intP)))(h8:inR w)(h9:inR ((1:Int)+(w.tmod (20:Int))))(h10:∀ base:Nat,FV Tryz.prog 88 [(.p (.sl g'4.length (g'4.flatten.map intP))),(.p (intP ((1:Int)+(w.tmod (20:Int)))))] base (.tup [(.p (.sl o5.length (o5.flatten.map intP))),(.p (intP 0))]) [])(h11:inR (c0.sk-(1:Int)))(h12:∀ base:Nat,FV Tryz.prog 89 [(.p (.sl g'4.length (g'4.flatten.map intP))),(.p (.sl 2 [(intP 1),(intP (c0.sk-(1:Int)))]))] base (.tup [(.p (.sl 2 [(intsP q6),(intsP q7)])),(.p (intP 0))]) [])(h13:(o5.length:Int)=c0.sk)(h14:(2:Int)=(2:Int))(h15:0≤(0:Int)∧(0:Int)<(2:Int)∧0<[(intsP q6),(intsP q7)].length)(h16:(q6.length:Int)=(1:Int))(h17:0≤(1:Int)∧(1:Int)<(2:Int)∧1<[(intsP q6),(intsP q7)].length)(h18:(q7.length:Int)=(c0.sk-(1:Int)))(hl19:LoopOK Tryz.prog 0 zZ5c1 (csd_S1 c0 o5 q6 q7 0) (.exit 2) (csd_S1 c0 o5 q6 q7 i'8)){base:Nat}:FV Tryz.prog 18 [(.p (.sl l.length (l.map byteP))),(.p (.v (.int .u8 w)))] base (.p (blP true)) []:=by
  exact FV.fin Tryz.func18 rfl (o:=[.c (.ptr 0 0) [(0,(.box 141 [(.p (.sl l.length (l.map byteP))),(.p (intP 0)),(.p (.v (.int .u32 (17:Int))))]))],.c (.p (cupP c0)) [(0,(.box 141 [(.p (.sl l.length (l.map byteP))),(.p (intP m1)),(.p (.v (.int .u32 t2)))]))],.c (.tup [(.p (.sl ((tableM c0).length) ((tableM c0).flatten.map intP))),(.p (intP 0))]) [],bF,bF,bF,bF,bF,bF,bF,.k 6 ⟨(rng [(0,1),(2,3),(9,2),(16,20),(39,28)]),[1,2],[],[]⟩ (.exit 0) (csd_S0 w c0 i'3 g'4.length (g'4.flatten.map intP)),.g 1 ⟨[],[0],[1],[]⟩,.c (.tup [(.p (.sl o5.length (o5.flatten.map intP))),(.p (intP 0))]) [],.c (.tup [(.p (.sl 2 [(intsP q6),(intsP q7)])),(.p (intP 0))]) [(1,.dead)],bF,bF,bF,bF,bF,bF,bF,bF,bF,bF,bF,bF,bF,bF,bF,bF,.x (intsP q6),bF,bF,bF,bF,bF,bF,.x (intsP q7),bF,bF,bF,bF,bF,bF,bF,.k 4 ⟨(rng [(0,11),(13,107),(123,44)]),[],[],[]⟩ (.exit 2) (csd_S1 c0 o5 q6 q7 i'8),.c (.p (blP true)) []]) (l:=[FC Tryz.prog 20 [] [] 0 (.p (blP true)) [],_,_,_,_,_,_,_,_,_,[(intsP q6),(intsP q7)][1]? = some (intsP q7),_,_,_,_,_,_,_,[(intsP q6),(intsP q7)][0]? = some (intsP q6),_,_,_,_,_,_,_,_,_,_,_,_,_,_,_,_,_,FC Tryz.prog 89 [(.p (.sl g'4.length (g'4.flatten.map intP))),(.own 1)] [(1,(.row 3 2 [(intP 1),(intP (c0.sk-(1:Int)))]))] 2 (.tup [(.p (.sl 2 [(intsP q6),(intsP q7)])),(.p (intP 0))]) [(1,.dead)],_,FC Tryz.prog 88 [(.p (.sl g'4.length (g'4.flatten.map intP))),(.p (intP ((1:Int)+(w.tmod (20:Int)))))] [] 1 (.tup [(.p (.sl o5.length (o5.flatten.map intP))),(.p (intP 0))]) [],_,(20:Int)≠0,_,_,_,_,_,_,_,_,_,_,_,FC Tryz.prog 27 [(.ptr 0 0),(.p (intP 12)),(.p (intP 8))] [(0,(.box 141 [(.p (.sl l.length (l.map byteP))),(.p (intP 0)),(.p (.v (.int .u32 (17:Int))))]))] 1 (.p (cupP c0)) [(0,(.box 141 [(.p (.sl l.length (l.map byteP))),(.p (intP m1)),(.p (.v (.int .u32 t2)))]))],FC Tryz.prog 28 [(.p (.sl l.length (l.map byteP)))] [] 0 (.ptr 0 0) [(0,(.box 141 [(.p (.sl l.length (l.map byteP))),(.p (intP 0)),(.p (.v (.int .u32 (17:Int))))]))]]) (by kernel_rfl) (gc (FV.fc (awake_ok _) rfl) (gc hl19.code (gc (q_neF h18) (gc (q_neF h16) (gc (q_neF h16) (gc h11 (gc (q_neF h16) (gc (q_neF h16) (gc (q_neF h16) (gc (q_neF h16) (gc rfl (gc (q_neF h16) (gc h17 (gc (q_neF h16) (gc (q_neF h16) (gc (q_neF h14) (gc (q_neF h14) (gc (q_neF h14) (gc rfl (gc (q_neF h14) (gc h15 (gc (q_neF h14) (gc (q_neF h14) (gc (q_neF h13) (gc (q_neF h13) (gc (q_neF h13) (gc (q_neF h13) (gc zZ5q0 (gc zZ5q0 (gc zZ5q0 (gc zZ5q0 (gc zZ5q0 (gc zZ5q0 (gc zZ5q0 (gc zZ5q0 (gc zZ5q0 (gc (FV.close (ids:=[1]) (args':=[(.p (.sl g'4.length (g'4.flatten.map intP))),(.p (.sl 2 [(intP 1),(intP (c0.sk-(1:Int)))]))]) (h12 _) (by kernel_rfl)) (gc h11 (gc (FV.fc (h10 _) rfl) (gc h9 (gc (by first | decide | simp) (gc h8 (gc hl7.code (gc h6 (gc (q_neF h5) (gc zZ5q0 (gc zZ5q0 (gc zZ5q0 (gc zZ5q0 (gc zZ5q0 (gc zZ5q0 (gc (fk 2 (table_ok c0 h4) rfl) (gc (FMM.fc (ids:=[0]) (made_eq (12:Int) (8:Int) l (0:Int) (17:Int) h0 h1 h2 h3) (by kernel_rfl)) (gc (FMM.fc (ids:=[]) (of_ok l) (by kernel_rfl)) gn))))))))))))))))))))))))))))))))))))))))))))))))))))))
theorem csd_L0_p2{w:Int}{c0:Cup}{i:Nat}{g:List (List Int)}{y100 y101 y102 y103 y104 y105 y106:Int}{i':Nat}{g':List (List Int)}(h0:(i:Int)<(((tableM c0).length:Nat):Int))(h1:(tableM c0)[i]? = some [y100,y101,y102,y103])(h2:uni 4 (tableM c0))(h3:(0:Int)≤y100)(h4:y100<c0.sk)(h5:inR (y100+(1:Int)))(h6:inR (((i+1):Nat):Int))(h7:g[y100.toNat]? = some [y104,y105,y106])(h8:0≤y100)(h9:[(intP (y100+(1:Int))),(intP (y100.tmod (4:Int))),(intP (((i+1):Nat):Int))].length=3∧(y100.toNat*3)+3≤(g.flatten.map intP).length)(ei':i'=(i+1))(eg'n:g'.length=g.length)(eg'c:g'.flatten.map intP=((g.flatten.map intP).take (y100.toNat*3)++[(intP (y100+(1:Int))),(intP (y100.tmod (4:Int))),(intP (((i+1):Nat):Int))]++(g.flatten.map intP).drop ((y100.toNat*3)+3))):CodeOK Tryz.prog 0 zZ5c0 (csd_S0 w c0 i g.length (g.flatten.map intP)) .normal (csd_S0 w c0 i' g'.length (g'.flatten.map intP)):=by
  subst ei'
  have raw:CodeOK Tryz.prog 0 zZ5c0 (csd_S0 w c0 i g.length (g.flatten.map intP)) .normal (csd_S0 w c0 (i+1) g.length ((g.flatten.map intP).take (y100.toNat*3)++[(intP (y100+(1:Int))),(intP (y100.tmod (4:Int))),(intP (((i+1):Nat):Int))]++(g.flatten.map intP).drop ((y100.toNat*3)+3))):=CodeOK.fin (g:=⟨(rng [(0,1),(2,3),(9,2),(16,20),(39,28)]),[0,1],[],[]⟩) (o:=[bT,.x (.agg [(intP y100),(intP y101),(intP y102),(intP y103)]),bF,bF,bF,bF,bF,bF,bF]) (l:=[_,_,_,_,(4:Int)≠0,_,_,_,_,_,_,_,_,_,_,0≤(i:Int)∧(i:Int)<(((tableM c0).length:Nat):Int)∧(i*4)<((tableM c0).flatten.map intP).length,_]) (by kernel_rfl) (gc h6 (gc h9 (gc (ix_own (i:=y100) h8 h7) (gc h6 (gc (by first | decide | simp) (gc h5 (gc (q_leF h4) (gc (q_ltF h3) (gc (q_ltF h3) (gc (q_ltF h3) (gc (q_ltF h3) (gc (q_ltF h3) (gc (q_ltF h3) (gc (fl_load (i:=i) h2 h1) (gc (fl_le (i:=i) h2 h1) (gc (ix_fl (k:=4) (i:=(i:Int)) (by decide) h2 (Int.natCast_nonneg _) h1) (gc (q_lt h0) gn)))))))))))))))))
  exact raw.cast (by rw [eg'n,eg'c])
theorem csd_L0_p3{w:Int}{c0:Cup}{i:Nat}{g:List (List Int)}(h0:(((tableM c0).length:Nat):Int)≤(i:Int)):CodeOK Tryz.prog 0 zZ5c0 (csd_S0 w c0 i g.length (g.flatten.map intP)) (.exit 0) (csd_S0 w c0 i g.length (g.flatten.map intP)):=by
  exact CodeOK.fin (g:=⟨(rng [(0,1),(2,3),(9,2),(16,20),(39,28)]),[0,1],[],[]⟩) (o:=[bF]) (l:=[_]) (by kernel_rfl) (gc (q_ltF h0) gn)
theorem csd_L1_p4{c0:Cup}{o5:List (List Int)}{q6 q7:List Int}{i:Nat}{y200 y201 y202 y203 y204 y205 y206 x207:Int}{i':Nat}(h0:(i:Int)<(((tableM c0).length:Nat):Int))(h1:(tableM c0)[i]? = some [y200,y201,y202,y203])(h2:uni 4 (tableM c0))(h3:o5[i]? = some [y204,y205,y206])(h4:uni 3 o5)(h5:inR (y200+(1:Int)))(h6:y204=(y200+(1:Int)))(h7:(i:Int)=(0:Int))(h8:0≤(0:Int)∧(0:Int)<(2:Int)∧0<[(intsP q6),(intsP q7)].length)(h9:q6[0]? = some x207)(h10:x207=y200)(h11:(i:Int)≤(0:Int))(h12:inR (((i+1):Nat):Int))(ei':i'=(i+1)):CodeOK Tryz.prog 0 zZ5c1 (csd_S1 c0 o5 q6 q7 i) .normal (csd_S1 c0 o5 q6 q7 i'):=by
  subst ei'
  exact CodeOK.fin (g:=⟨(rng [(0,11),(13,107),(123,44)]),[],[],[]⟩) (o:=[bT,.x (.agg [(intP y200),(intP y201),(intP y202),(intP y203)]),.x (intP y204),bF,bF,bF,bT,bT,bT,.x (intsP q6),bT,bT,.x (intP x207),bT,bT,bT,bF,bT,bF,bF,bF,bF,bF,bF,bF,bF,bF,bF,bF,bF,bF,bF,bF,bF,bF]) (l:=[_,_,_,_,_,_,_,_,_,_,_,_,_,_,_,_,_,_,_,_,_,_,_,(q6.map intP)[0]? = some (intP x207),_,0≤(0:Int)∧(0:Int)<(q6.length:Int)∧0<(q6.map intP).length,_,[(intsP q6),(intsP q7)][0]? = some (intsP q6),_,_,_,_,_,_,_,_,(o5.flatten.map intP)[(i*3)]? = some (intP y204),0≤(i:Int)∧(i:Int)<(o5.length:Int)∧(i*3)<(o5.flatten.map intP).length,_,_,0≤(i:Int)∧(i:Int)<(((tableM c0).length:Nat):Int)∧(i*4)<((tableM c0).flatten.map intP).length,_]) (by kernel_rfl) (gc h12 (gc (q_neF h10) (gc (q_ltF h11) (gc (q_neF h10) (gc (q_ltF h11) (gc (q_ltF h11) (gc (q_ltF h11) (gc (q_ltF h11) (gc (q_ltF h11) (gc (q_ltF h11) (gc (q_ltF h11) (gc (q_ltF h11) (gc (q_ltF h11) (gc (q_ltF h11) (gc (q_neF h10) (gc (q_neF h10) (gc (q_neF h10) (gc (q_neF h6) (gc (q_eq h7) (gc (q_neF h6) (gc (q_eq h7) (gc (q_eq h7) (gc (q_eq h7) (gc (at_map (i:=0) h9) (gc (q_eq h7) (gc (ix_map (i:=(0:Int)) (by first | decide | simp) h9) (gc (q_eq h7) (gc rfl (gc (q_eq h7) (gc h8 (gc (q_eq h7) (gc (q_eq h7) (gc (q_neF h6) (gc (q_neF h6) (gc (q_neF h6) (gc h5 (gc (fl_field (i:=i) (f:=0) h4 h3 rfl) (gc (ix_fl (k:=3) (i:=(i:Int)) (by decide) h4 (Int.natCast_nonneg _) h3) (gc (fl_load (i:=i) h2 h1) (gc (fl_le (i:=i) h2 h1) (gc (ix_fl (k:=4) (i:=(i:Int)) (by decide) h2 (Int.natCast_nonneg _) h1) (gc (q_lt h0) gn))))))))))))))))))))))))))))))))))))))))))
theorem csd_L1_p6{c0:Cup}{o5:List (List Int)}{q6 q7:List Int}{i:Nat}{y200 y201 y202 y203 y204 y205 y206 x207:Int}{i':Nat}(h0:(i:Int)<(((tableM c0).length:Nat):Int))(h1:(tableM c0)[i]? = some [y200,y201,y202,y203])(h2:uni 4 (tableM c0))(h3:o5[i]? = some [y204,y205,y206])(h4:uni 3 o5)(h5:inR (y200+(1:Int)))(h6:y204=(y200+(1:Int)))(h7:(i:Int)≠(0:Int))(h8:(0:Int)<(i:Int))(h9:0≤(1:Int)∧(1:Int)<(2:Int)∧1<[(intsP q6),(intsP q7)].length)(h10:inR ((i:Int)-(1:Int)))(h11:q7[((i:Int)-(1:Int)).toNat]? = some x207)(h12:0≤((i:Int)-(1:Int)))(h13:x207=y200)(h14:inR (((i+1):Nat):Int))(ei':i'=(i+1)):CodeOK Tryz.prog 0 zZ5c1 (csd_S1 c0 o5 q6 q7 i) .normal (csd_S1 c0 o5 q6 q7 i'):=by
  subst ei'
  exact CodeOK.fin (g:=⟨(rng [(0,11),(13,107),(123,44)]),[],[],[]⟩) (o:=[bT,.x (.agg [(intP y200),(intP y201),(intP y202),(intP y203)]),.x (intP y204),bF,bF,bF,bF,bF,bF,bF,bF,bF,bF,bF,bF,bF,bF,bT,bT,bT,.x (intsP q7),bT,bT,bT,bT,.x (intP x207),bT,bT,bT,bT,bF]) (l:=[_,_,_,_,_,_,(q7.map intP)[(((i:Int)-(1:Int)).toNat*1)]? = some (intP x207),_,_,_,_,_,_,[(intsP q6),(intsP q7)][1]? = some (intsP q7),_,_,_,_,_,_,_,_,_,_,_,_,_,_,_,_,_,_,_,(o5.flatten.map intP)[(i*3)]? = some (intP y204),0≤(i:Int)∧(i:Int)<(o5.length:Int)∧(i*3)<(o5.flatten.map intP).length,_,_,0≤(i:Int)∧(i:Int)<(((tableM c0).length:Nat):Int)∧(i*4)<((tableM c0).flatten.map intP).length,_]) (by kernel_rfl) (gc h14 (gc (q_neF h13) (gc (q_lt h8) (gc (q_lt h8) (gc (q_lt h8) (gc (q_lt h8) (gc (at_map (i:=((i:Int)-(1:Int)).toNat) h11) (gc (q_lt h8) (gc (ix_map (g:=intP) h12 h11) (gc (q_lt h8) (gc h10 (gc (q_lt h8) (gc (q_lt h8) (gc rfl (gc (q_lt h8) (gc h9 (gc (q_lt h8) (gc (q_lt h8) (gc (q_neF h6) (gc (q_ne h7) (gc (q_neF h6) (gc (q_ne h7) (gc (q_ne h7) (gc (q_ne h7) (gc (q_ne h7) (gc (q_ne h7) (gc (q_ne h7) (gc (q_ne h7) (gc (q_ne h7) (gc (q_neF h6) (gc (q_neF h6) (gc (q_neF h6) (gc h5 (gc (fl_field (i:=i) (f:=0) h4 h3 rfl) (gc (ix_fl (k:=3) (i:=(i:Int)) (by decide) h4 (Int.natCast_nonneg _) h3) (gc (fl_load (i:=i) h2 h1) (gc (fl_le (i:=i) h2 h1) (gc (ix_fl (k:=4) (i:=(i:Int)) (by decide) h2 (Int.natCast_nonneg _) h1) (gc (q_lt h0) gn)))))))))))))))))))))))))))))))))))))))
theorem csd_L1_p8{c0:Cup}{o5:List (List Int)}{q6 q7:List Int}{i:Nat}(h0:(((tableM c0).length:Nat):Int)≤(i:Int)):CodeOK Tryz.prog 0 zZ5c1 (csd_S1 c0 o5 q6 q7 i) (.exit 2) (csd_S1 c0 o5 q6 q7 i):=by
  exact CodeOK.fin (g:=⟨(rng [(0,11),(13,107),(123,44)]),[],[],[]⟩) (o:=[bF]) (l:=[_]) (by kernel_rfl) (gc (q_ltF h0) gn)
theorem seed_len3{x:List Int}(h:x.length=3):∃ a b c,x=[a,b,c]:=by
  match x,h with
  | [a,b,c],_=>exact ⟨a,b,c,rfl⟩
theorem seed_law(l:List Int)(w:Int)(hw:0≤w∧w≤255){base:Nat}:FV Tryz.prog 18 [.p (.sl l.length (l.map byteP)),.p (.v (.int .u8 w))] base (.p (blP true)) []:=by
  have hsp:=madeM_spec 12 8 l 0 17 (by omega) (by omega) (by omega)
  obtain ⟨⟨c,m,t⟩,e⟩:∃ q,q=madeM 12 8 l 0 17:=⟨_,rfl⟩
  rw [← e] at hsp
  obtain ⟨_,hV,hs2,hs12,_⟩:=hsp
  dsimp only at hV hs2 hs12
  have hn:((c.sk.toNat:Nat):Int)=c.sk:=by omega
  have hlen:=table_len c
  have htu:=tableM_uni c
  have hF:=field_ok c
  have hol:=ord_len c
  have t1:0≤w.tmod 20∧w.tmod 20<20:=⟨Int.tmod_nonneg _ hw.1,Int.tmod_lt_of_pos _ (by omega)⟩
  obtain ⟨o,ol,ou,oa,ob⟩:=sbx_ok (fldM c c.sk.toNat) (ordM c) c.sk.toNat (1+w.tmod 20) hF (by omega) (by omega)
  have gr:=fun base:Nat=>sgr_ok (fldM c c.sk.toNat) (ordM c) c.sk.toNat hF (by omega) (base:=base)
  simp only [hn] at gr
  have hord:∀ i k:Nat,(ordM c)[i]? = some (k:Int)→(ordM c).getD i 0=(k:Int):=fun i k h=>by rw [List.getD_eq_getElem?_getD,h];rfl
  have L0:=LoopOK.count (P:=Tryz.prog) (k:=0) (b:=zZ5c0) (e := .exit 0) (R:=csd_S0 w c c.sk.toNat (fldM c c.sk.toNat).length ((fldM c c.sk.toNat).flatten.map intP)) c.sk.toNat (fun i=>csd_S0 w c i (fldM c i).length ((fldM c i).flatten.map intP)) (fun i hi=>by
      obtain ⟨k,hk,hr,ho⟩:=ord_at (c:=c) hi
      have hg:=hord i k ho
      have hfi:k<(fldM c i).length:=by rw [fld_len];exact hk
      obtain ⟨a,b,d,hx⟩:=seed_len3 (fld_uni c i _ (List.getElem_mem hfi))
      have hget:(fldM c i)[k]? = some [a,b,d]:=by rw [List.getElem?_eq_getElem hfi,hx]
      have st:=fl_store (k:=3) (i:=k) (x:=[(k:Int)+1,(k:Int).tmod 4,(i:Int)+1]) (fld_uni c i) hfi rfl
      have es:fldM c (i+1)=(fldM c i).set k [(k:Int)+1,(k:Int).tmod 4,(i:Int)+1]:=by
        show (fldM c i).set ((ordM c).getD i 0).toNat [(ordM c).getD i 0+1,((ordM c).getD i 0).tmod 4,(i:Int)+1]=_
        rw [hg,Int.toNat_natCast]
      have ec:((i+1:Nat):Int)=(i:Int)+1:=by omega
      exact csd_L0_p2 (y100:=(k:Int)) (g:=fldM c i) (g':=fldM c (i+1)) (by omega) hr htu (by omega) (by omega) (by unfold inR;omega) (inR_nat (by omega)) (by rw [Int.toNat_natCast];exact hget) (by omega) ⟨rfl,by rw [Int.toNat_natCast];exact fl_le (fld_uni c i) hget⟩ rfl (by rw [fld_len,fld_len]) (by rw [es,← st,Int.toNat_natCast,ec];rfl))
    (csd_L0_p3 (by omega)) (by simp)
  have e0:(fldM c 0).flatten.map intP=(List.replicate c.sk.toNat [intP 0,intP 0,intP 0]).flatten:=by
    show (List.replicate c.sk.toNat [(0:Int),0,0]).flatten.map intP=_
    rw [List.map_flatten,List.map_replicate];rfl
  rw [fld_len c 0,e0] at L0
  have q6:((ordM c).take 1).length=1:=by simp;omega
  have q7:((ordM c).drop 1).length=c.sk.toNat-1:=by simp;omega
  have L1:=LoopOK.count (P:=Tryz.prog) (k:=0) (b:=zZ5c1) (e := .exit 2) (R:=csd_S1 c o ((ordM c).take 1) ((ordM c).drop 1) c.sk.toNat) c.sk.toNat (fun i=>csd_S1 c o ((ordM c).take 1) ((ordM c).drop 1) i) (fun i hi=>by
      obtain ⟨k,hk,hr,ho⟩:=ord_at (c:=c) hi
      have hg:=hord i k ho
      obtain ⟨y,z,hoi⟩:=oa i hi
      rw [hg] at hoi
      by_cases hz:i=0
      · subst hz
        exact csd_L1_p4 (x207:=(k:Int)) (by omega) hr htu hoi ou (by unfold inR;omega) rfl rfl ⟨by omega,by omega,by simp⟩ (by rw [List.getElem?_take_of_lt (by omega)];exact ho) rfl (by omega) (inR_nat (by omega)) rfl
      · exact csd_L1_p6 (x207:=(k:Int)) (by omega) hr htu hoi ou (by unfold inR;omega) rfl (by omega) (by omega) ⟨by omega,by omega,by simp⟩ (by unfold inR;omega) (by rw [show ((i:Int)-1).toNat=i-1 by omega,List.getElem?_drop,show 1+(i-1)=i by omega];exact ho) (by omega) rfl (inR_nat (by omega)) rfl)
    (csd_L1_p8 (by omega)) (by simp)
  exact csd_p4 (g'4:=fldM c c.sk.toNat) (o5:=o) (q6:=(ordM c).take 1) (q7:=(ordM c).drop 1) ⟨by omega,by omega⟩ ⟨by omega,by omega⟩ ⟨by omega,by omega⟩ e.symm hV (by omega) ⟨by omega,by omega,by omega⟩ L0 (by unfold inR;omega) (by unfold inR;omega) ob (by unfold inR;omega) gr (by omega) rfl ⟨by omega,by omega,by simp⟩ (by omega) ⟨by omega,by omega,by simp⟩ (by omega) L1
end
end KV
end Go.Proofs
