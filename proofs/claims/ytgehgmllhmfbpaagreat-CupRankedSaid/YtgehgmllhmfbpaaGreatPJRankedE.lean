/- Parts of the proof of JRanked: laws of walks, contracts of functions, plain models. No condition. -/
import Derived.Test.YtgehgmllhmfbpaaGreatPJRankedD
set_option linter.unusedVariables false
set_option linter.unusedSimpArgs false
set_option maxRecDepth 100000
section
namespace Go.Proofs
open KL Go.RowKit
namespace KV
open Go.ChangeMaps (setBlock)
variable {C C0:Cx} {M M0:Mem} {w w0:World}

theorem info3z:(Tryz.prog.info? 3).map (fun i=>(i.zero,i.size,i.bytes))=some (some (.int .i64 0),1,8):=by kernel_rfl
theorem ti3:∃ i,tiOf Tryz.prog 3=some i∧i.agg=false∧i.size=1:=by
  have h:(tiOf Tryz.prog 3).map (fun i=>(i.agg,i.size))=some (false,1):=by kernel_rfl
  cases h2:tiOf Tryz.prog 3 with
  | none=>rw [h2] at h;cases h
  | some i=>rw [h2] at h;simp at h;exact ⟨i,rfl,h.1,h.2⟩
abbrev mpv(mb:Nat):PV := .v (.map (some mb))
abbrev stT(c:KL.Cup)(ns:List Int)(mo:Int)(qs:List Int):St:=⟨fr 161 [(1,(.p (intsP ns))),(2,(.p (intP mo))),(3,(.p (intsP qs))),(10,(.ptr 0 0))],[some (.box 120 [(.p (intP c.sk)),(.p (intP c.ra)),(.p (intP c.be)),(.p (intsP c.pts)),(.p (rowsP c.done))])]⟩
abbrev stA(c:KL.Cup)(ns:List Int)(mo:Int)(qs:List Int)(mv:PV):St:=⟨fr 161 [(1,(.p (intsP ns))),(2,(.p (intP mo))),(3,(.p (intsP qs))),(10,(.ptr 0 0)),(12,(.p mv))],[some (.box 120 [(.p (intP c.sk)),(.p (intP c.ra)),(.p (intP c.be)),(.p (intsP c.pts)),(.p (rowsP c.done))])]⟩
abbrev stB(ns:List Int)(mo:Int)(qs:List Int)(mv:PV)(ts:List Int)(i:Nat):St:=⟨fr 161 [(1,(.p (intsP ns))),(2,(.p (intP mo))),(3,(.p (intsP qs))),(12,(.p mv)),(63,(.p (intsP ts))),(64,(.p (intP (ts.length:Int)))),(65,(.p (intP (i:Int))))],[]⟩
abbrev stD(ns:List Int)(mo:Int)(qs:List Int)(mv:PV)(ts:List Int)(i:Nat)(x:Int):St:=⟨fr 161 [(1,(.p (intsP ns))),(2,(.p (intP mo))),(3,(.p (intsP qs))),(12,(.p mv)),(13,(.p (intP (i:Int)))),(14,(.p (intP x))),(63,(.p (intsP ts))),(64,(.p (intP (ts.length:Int)))),(65,(.p (intP (i:Int))))],[]⟩
abbrev stF(ns:List Int)(mo:Int)(qs:List Int)(mv:PV)(n:Nat)(o:List (List Int)):St:=⟨fr 161 [(1,(.p (intsP ns))),(2,(.p (intP mo))),(3,(.p (intsP qs))),(12,(.p mv)),(15,(.own 0)),(85,(.p (intP (n:Int))))],[some (.row 40 o.length (o.flatten.map intP))]⟩
abbrev stG(ns:List Int)(mo:Int)(qs:List Int)(mv:PV)(n:Nat)(o:List (List Int)):St:=⟨fr 161 [(1,(.p (intsP ns))),(2,(.p (intP mo))),(3,(.p (intsP qs))),(12,(.p mv)),(15,(.own 0)),(16,(.p (intP (n:Int)))),(85,(.p (intP (n:Int))))],[some (.row 40 o.length (o.flatten.map intP))]⟩
abbrev stN(ns:List Int)(mo:Int)(qs:List Int)(mv:PV)(n:Nat)(o:List (List Int)):St:=⟨fr 161 [(1,(.p (intsP ns))),(2,(.p (intP mo))),(3,(.p (intsP qs))),(12,(.p mv)),(15,(.own 0)),(16,(.p (intP (n:Int)))),(17,(.p nilS)),(85,(.p (intP (n:Int))))],[some (.row 40 o.length (o.flatten.map intP))]⟩
abbrev stH(ns:List Int)(mo:Int)(qs:List Int)(mv:PV)(n:Nat)(o:List (List Int))(y:Int)(l:List Int):St:=⟨fr 161 [(1,(.p (intsP ns))),(2,(.p (intP mo))),(3,(.p (intsP qs))),(12,(.p mv)),(15,(.own 0)),(16,(.p (intP (n:Int)))),(17,(.own 1)),(85,(.p (intP (n:Int))))],[some (.row 40 o.length (o.flatten.map intP)),some (.row 3 (l.length+1) ((intP y)::(l.map intP)))]⟩

theorem ops14_ex:∃ l:List Oper,sub (cd Tryz.f22) [1,1,1,1,0,1,0,0,1,1,0,0,1] = .region 14 l.toArray true∧closedL l [0,1,2,3,4,5,6,7,8,9,10,11] 12 13 14=true∧l.map (fun o=>(o.op,o.dst))=[(.move (.tmp 12),some 70),(.move (.tmp 1),some 71),(.move (.tmp 13),some 72),(.indexAddr 22 (.tmp 71) (.tmp 72),some 73),(.load 3 (.tmp 73),some 74),(.move (.tmp 12),some 75),(.move (.tmp 1),some 76),(.move (.tmp 13),some 77),(.indexAddr 22 (.tmp 76) (.tmp 77),some 78),(.load 3 (.tmp 78),some 79),(.lookup 124 (.tmp 75) (.tmp 79) false,some 80),(.move (.tmp 14),some 81),(.buildSlice 22 1 #[(0,.tmp 81)],some 82),(.call { callee := .builtin .append,args := #[.tmp 80,.tmp 82],argTypes := #[22,22] },some 83),(.mapUpdate 124 (.tmp 70) (.tmp 74) (.tmp 83),none)] :=
  ⟨match sub (cd Tryz.f22) [1,1,1,1,0,1,0,0,1,1,0,0,1] with | .region _ ops _=>ops.toList | _=>[],by kernel_rfl,by kernel_rfl,by kernel_rfl⟩
theorem r14{ns ts:List Int}{mo:Int}{qs:List Int}{i:Nat}{k x:Int}(hk:ns[i]? = some k)(hkw:(Lit.int .i64 k).wf=true){G G':List Ent→Prop}(hGl:∀ L,G L→∀ e∈L,e.l.length≤1000)
    (hG:∀ L e mb es,G L→MapOK mb es L→e.k=k→e.l=lookL L k++[x]→G' (putE L e)) :
    CodeR Tryz.prog 0 (sub (cd Tryz.f22) [1,1,1,1,0,1,0,0,1,1,0,0,1]) (fun st R=>∃ mb es cl L,st=stD ns mo qs (mpv mb) ts i x∧R=mapR mb es cl L∧MapOK mb es L∧G L) .normal
      (fun st R=>∃ mb es cl L,st=stD ns mo qs (mpv mb) ts i x∧R=mapR mb es cl L∧MapOK mb es L∧G' L):=by
  obtain ⟨l,hc,hB,hops⟩:=ops14_ex
  rw [hc]
  refine CodeR.hand fun C0 M0 w0 a w st R hM0 hΨ hd hs => ?_
  obtain ⟨mb,es,cl,L,rfl,rfl,hM,hGL⟩:=hΨ
  obtain ⟨o0,l0,rfl,h0,hops⟩:=List.map_eq_cons_iff.1 hops
  obtain ⟨o1,l1,rfl,h1,hops⟩:=List.map_eq_cons_iff.1 hops
  obtain ⟨o2,l2,rfl,h2,hops⟩:=List.map_eq_cons_iff.1 hops
  obtain ⟨o3,l3,rfl,h3,hops⟩:=List.map_eq_cons_iff.1 hops
  obtain ⟨o4,l4,rfl,h4,hops⟩:=List.map_eq_cons_iff.1 hops
  obtain ⟨o5,l5,rfl,h5,hops⟩:=List.map_eq_cons_iff.1 hops
  obtain ⟨o6,l6,rfl,h6,hops⟩:=List.map_eq_cons_iff.1 hops
  obtain ⟨o7,l7,rfl,h7,hops⟩:=List.map_eq_cons_iff.1 hops
  obtain ⟨o8,l8,rfl,h8,hops⟩:=List.map_eq_cons_iff.1 hops
  obtain ⟨o9,l9,rfl,h9,hops⟩:=List.map_eq_cons_iff.1 hops
  obtain ⟨o10,l10,rfl,h10,hops⟩:=List.map_eq_cons_iff.1 hops
  obtain ⟨o11,l11,rfl,h11,hops⟩:=List.map_eq_cons_iff.1 hops
  obtain ⟨o12,l12,rfl,h12,hops⟩:=List.map_eq_cons_iff.1 hops
  obtain ⟨o13,l13,rfl,h13,hops⟩:=List.map_eq_cons_iff.1 hops
  obtain ⟨o14,l14,rfl,h14,hops⟩:=List.map_eq_cons_iff.1 hops
  obtain rfl:=List.map_eq_nil_iff.1 hops
  obtain ⟨q0,d0⟩:=Prod.mk.inj h0
  obtain ⟨q1,d1⟩:=Prod.mk.inj h1
  obtain ⟨q2,d2⟩:=Prod.mk.inj h2
  obtain ⟨q3,d3⟩:=Prod.mk.inj h3
  obtain ⟨q4,d4⟩:=Prod.mk.inj h4
  obtain ⟨q5,d5⟩:=Prod.mk.inj h5
  obtain ⟨q6,d6⟩:=Prod.mk.inj h6
  obtain ⟨q7,d7⟩:=Prod.mk.inj h7
  obtain ⟨q8,d8⟩:=Prod.mk.inj h8
  obtain ⟨q9,d9⟩:=Prod.mk.inj h9
  obtain ⟨q10,d10⟩:=Prod.mk.inj h10
  obtain ⟨q11,d11⟩:=Prod.mk.inj h11
  obtain ⟨q12,d12⟩:=Prod.mk.inj h12
  obtain ⟨q13,d13⟩:=Prod.mk.inj h13
  obtain ⟨q14,d14⟩:=Prod.mk.inj h14
  have hsz:a.tmps.size=161:=hs.size
  have v12:a.tmps.getD 12 undef = .map (some mb):=hs.slot rfl
  have v13:a.tmps.getD 13 undef = .int .i64 i:=hs.slot rfl
  have v14:a.tmps.getD 14 undef = .int .i64 x:=hs.slot rfl
  obtain ⟨p,cap,v1,hc1,hc2,hcell⟩:=hs.ints (i:=1) (l:=ns) rfl
  obtain ⟨b,o,rfl,hb,hcl,hne⟩:=hcell i k hk
  have V12:a.eval (.tmp 12) = .map (some mb):=v12
  have V13:a.eval (.tmp 13) = .int .i64 i:=v13
  have V14:a.eval (.tmp 14) = .int .i64 x:=v14
  have V1:a.eval (.tmp 1) = .slice (some ⟨b,o,none⟩) ns.length cap:=v1
  obtain ⟨i3,t3,ha3,hs3⟩:=ti3
  have hil:(i:Int)<(ns.length:Int):=by
    have:=(List.getElem?_eq_some_iff.1 hk).1
    omega
  have hix:∀ W,(Instr.indexAt 22 (.slice (some ⟨b,o,none⟩) ns.length cap) (.int .i64 i)).run Tryz.prog W = .ok (.pointer (some ⟨b,o+i,none⟩)) W:=fun W=>by
    have:=run_indexAt_slice (P:=Tryz.prog) (w:=W) Tryz.underlying22 t3 (b:=b) (off:=o) (n:=ns.length) (cap:=cap) (k := .i64) (i:=(i:Int)) (by omega) hil
    rw [hs3,Nat.mul_one,Int.toNat_natCast] at this
    exact this
  have hmb:w.heap[mb]? = some (.map es cl):=hs.has (mb,.map es cl) (by simp [mapR])
  have hs':=hs.drawn (w.drawn+1)
  obtain ⟨v2,w2,es',cl',e,hrun,hkeep,hmb2,hup,hM',hek,hel,hd',hsim⟩:=mapStep (P:=Tryz.prog) (kt:=3) (S22:=22) (ty:=o13.type) (k:=k) (x:=x) Tryz.underlying124 Tryz.underlying3 Tryz.underlying22 info3z hs' hd hM hkw (hGl L hGL)
  refine region3 (P:=Tryz.prog) (o1:=o12) (o2:=o13) (o3:=o14) (S:=fun W=>W.cell? ⟨b,o+i,none⟩=some (.int .i64 k)∧W.heap[mb]? = some (.map es cl)) [0,1,2,3,4,5,6,7,8,9,10,11] 12 13 14 mixed hB rfl rfl rfl (fun c a w h=>by cases h.1) ⟨hcl,hmb⟩
    [.map (some mb),.slice (some ⟨b,o,none⟩) ns.length cap,.int .i64 i,.pointer (some ⟨b,o+i,none⟩),.int .i64 k,.map (some mb),.slice (some ⟨b,o,none⟩) ns.length cap,.int .i64 i,.pointer (some ⟨b,o+i,none⟩),.int .i64 k,lookV L k,.int .i64 x] rfl ?_ ?_
  · refine ⟨fun W hW=>ex_move q0 (by simp [eval_put_ne,eval_put_same,put_size,hsz,V12,V13,V14,V1,d0,d1,d2,d3,d4,d5,d6,d7,d8,d9,d10,d11]),fun W hW=>ex_move q1 (by simp [eval_put_ne,eval_put_same,put_size,hsz,V12,V13,V14,V1,d0,d1,d2,d3,d4,d5,d6,d7,d8,d9,d10,d11]),fun W hW=>ex_move q2 (by simp [eval_put_ne,eval_put_same,put_size,hsz,V12,V13,V14,V1,d0,d1,d2,d3,d4,d5,d6,d7,d8,d9,d10,d11]),fun W hW=>ex_index q3 (by simp [eval_put_ne,eval_put_same,put_size,hsz,V12,V13,V14,V1,d0,d1,d2,d3,d4,d5,d6,d7,d8,d9,d10,d11]) (by simp [eval_put_ne,eval_put_same,put_size,hsz,V12,V13,V14,V1,d0,d1,d2,d3,d4,d5,d6,d7,d8,d9,d10,d11]) (hix W),fun W hW=>ex_load q4 (by simp [eval_put_ne,eval_put_same,put_size,hsz,V12,V13,V14,V1,d0,d1,d2,d3,d4,d5,d6,d7,d8,d9,d10,d11]) (run_load1 t3 ha3 hW.1),fun W hW=>ex_move q5 (by simp [eval_put_ne,eval_put_same,put_size,hsz,V12,V13,V14,V1,d0,d1,d2,d3,d4,d5,d6,d7,d8,d9,d10,d11]),fun W hW=>ex_move q6 (by simp [eval_put_ne,eval_put_same,put_size,hsz,V12,V13,V14,V1,d0,d1,d2,d3,d4,d5,d6,d7,d8,d9,d10,d11]),fun W hW=>ex_move q7 (by simp [eval_put_ne,eval_put_same,put_size,hsz,V12,V13,V14,V1,d0,d1,d2,d3,d4,d5,d6,d7,d8,d9,d10,d11]),fun W hW=>ex_index q8 (by simp [eval_put_ne,eval_put_same,put_size,hsz,V12,V13,V14,V1,d0,d1,d2,d3,d4,d5,d6,d7,d8,d9,d10,d11]) (by simp [eval_put_ne,eval_put_same,put_size,hsz,V12,V13,V14,V1,d0,d1,d2,d3,d4,d5,d6,d7,d8,d9,d10,d11]) (hix W),fun W hW=>ex_load q9 (by simp [eval_put_ne,eval_put_same,put_size,hsz,V12,V13,V14,V1,d0,d1,d2,d3,d4,d5,d6,d7,d8,d9,d10,d11]) (run_load1 t3 ha3 hW.1),fun W hW=>ex_lookup q10 (by simp [eval_put_ne,eval_put_same,put_size,hsz,V12,V13,V14,V1,d0,d1,d2,d3,d4,d5,d6,d7,d8,d9,d10,d11]) (by simp [eval_put_ne,eval_put_same,put_size,hsz,V12,V13,V14,V1,d0,d1,d2,d3,d4,d5,d6,d7,d8,d9,d10,d11]) (look_run Tryz.underlying124 Tryz.underlying3 rfl hW.2 hM hkw),fun W hW=>ex_move q11 (by simp [eval_put_ne,eval_put_same,put_size,hsz,V12,V13,V14,V1,d0,d1,d2,d3,d4,d5,d6,d7,d8,d9,d10,d11]),trivial⟩
  · intro a' ha'
    have e70:a'.eval (.tmp 70) = .map (some mb):=by rw [ha'];simp [putsL,eval_put_ne,eval_put_same,put_size,hsz,V12,V13,V14,V1,d0,d1,d2,d3,d4,d5,d6,d7,d8,d9,d10,d11]
    have e74:a'.eval (.tmp 74) = .int .i64 k:=by rw [ha'];simp [putsL,eval_put_ne,eval_put_same,put_size,hsz,V12,V13,V14,V1,d0,d1,d2,d3,d4,d5,d6,d7,d8,d9,d10,d11]
    have e80:a'.eval (.tmp 80)=lookV L k:=by rw [ha'];simp [putsL,eval_put_ne,eval_put_same,put_size,hsz,V12,V13,V14,V1,d0,d1,d2,d3,d4,d5,d6,d7,d8,d9,d10,d11]
    have e81:a'.eval (.tmp 81) = .int .i64 x:=by rw [ha'];simp [putsL,eval_put_ne,eval_put_same,put_size,hsz,V12,V13,V14,V1,d0,d1,d2,d3,d4,d5,d6,d7,d8,d9,d10,d11]
    have hsz':a'.tmps.size=161:=by rw [ha'];simp [putsL,put_size,hsz,d0,d1,d2,d3,d4,d5,d6,d7,d8,d9,d10,d11]
    obtain ⟨inf,hi,hz,hz1,hz2⟩:=info_parts info3z
    have hbld:∀ W:World,(Instr.buildSlice 22 1 #[(0,.int .i64 x)]).run Tryz.prog W = .ok (.slice (some ⟨W.heap.size,0,none⟩) 1 1) (W.alloc (.cells #[.int .i64 x] 3)):=fun W =>
      run_build0 (P:=Tryz.prog) 22 3 inf 1 #[(0,.int .i64 x)] #[.int .i64 x] (.int .i64 0) Tryz.underlying22 hi hz (by rw [hz1];decide) (by rw [hz1];kernel_rfl)
    refine ⟨_,_,v2,w2,setBlock w2 mb (.map es' cl'),ex_build1 q12 e81 (hbld _),?_,ex_append q13 (by rw [d12,eval_put_ne rfl];exact e80) (by rw [d12,eval_put_same (by omega)]) hrun,⟨?_,hmb2.trans hmb⟩,ex_update q14 (by rw [d12,d13,eval_put_ne rfl,eval_put_ne rfl];exact e70) (by rw [d12,d13,eval_put_ne rfl,eval_put_ne rfl];exact e74) (by rw [d12,d13,eval_put_same (by rw [put_size];omega)]) hup,?_⟩
    · obtain ⟨n1,n2,n3⟩:=heap_push { w with drawn:=w.drawn+1 } (.cells #[.int .i64 x] 3)
      exact ⟨(cell_heap (n3 b hb) _).trans hcl,(n3 mb (lt_of_some hmb)).trans hmb⟩
    · exact (cell_heap (hkeep b hb fun q hq=>hne q (List.mem_append_left _ hq)) _).trans hcl
    · refine ⟨rfl,_,_,⟨mb,es',cl',putE L e,rfl,rfl,hM',hG L e mb es hGL hM hek hel⟩,hd',?_⟩
      have h1:=(Sim.anyL [(o0,.map (some mb)),(o1,.slice (some ⟨b,o,none⟩) ns.length cap),(o2,.int .i64 i),(o3,.pointer (some ⟨b,o+i,none⟩)),(o4,.int .i64 k),(o5,.map (some mb)),(o6,.slice (some ⟨b,o,none⟩) ns.length cap),(o7,.int .i64 i),(o8,.pointer (some ⟨b,o+i,none⟩)),(o9,.int .i64 k),(o10,lookV L k),(o11,.int .i64 x)] hsim (by
        simp only [List.all_cons,List.all_nil,d0,d1,d2,d3,d4,d5,d6,d7,d8,d9,d10,d11]
        rfl))
      have h2:=((h1.any o12.dst (.slice (some ⟨w.heap.size,0,none⟩) 1 1) (fun i hi=>by rw [d12] at hi;cases hi;rfl)).any o13.dst v2 (fun i hi=>by rw [d13] at hi;cases hi;rfl)).any o14.dst undef (fun i hi=>by rw [d14] at hi;cases hi)
      rw [ha']
      exact h2
end KV
end Go.Proofs
end
section
namespace Go.Proofs
open KL Go.RowKit
namespace KV
open Go.ChangeMaps (setBlock)
variable {C C0:Cx} {M M0:Mem} {w w0:World}

def grp(ns ts:List Int)(g:Int)(i:Nat):List Int:=((ns.zip ts).take i).filterMap fun p=>if p.1=g then some p.2 else none
theorem grp_zero(ns ts:List Int)(g:Int):grp ns ts g 0=[]:=rfl
theorem grp_succ{ns ts:List Int}{g k x:Int}{i:Nat}(hk:ns[i]? = some k)(hx:ts[i]? = some x):grp ns ts g (i+1)=grp ns ts g i++(if k=g then [x] else []):=by
  have:(ns.zip ts)[i]? = some (k,x):=List.getElem?_zip_eq_some.2 ⟨hk,hx⟩
  unfold grp
  rw [List.take_add_one,this,List.filterMap_append]
  by_cases h:k=g <;> simp [h]
theorem grp_len(ns ts:List Int)(g:Int)(i:Nat):(grp ns ts g i).length≤i:=by
  unfold grp
  exact Nat.le_trans (List.length_filterMap_le _ _) (List.length_take_le _ _)

structure GrpOK (ns ts:List Int) (i:Nat) (L:List Ent):Prop where
  a:∀ e∈L,e.l=grp ns ts e.k i∧e.l≠[]
  b:∀ g,grp ns ts g i≠[]→∃ e∈L,e.k=g
theorem GrpOK.nil(ns ts:List Int):GrpOK ns ts 0 []:=⟨fun e h=>by simp at h,fun g h=>absurd (grp_zero ns ts g) h⟩
theorem GrpOK.look{ns ts:List Int}{i:Nat}{L:List Ent}(h:GrpOK ns ts i L)(k:Int):lookL L k=grp ns ts k i:=by
  unfold lookL
  cases hl:lookE L k with
  | some e =>
    obtain ⟨h1,rfl⟩:=lookE_some hl
    exact (h.a e h1).1
  | none =>
    cases hg:grp ns ts k i with
    | nil=>rfl
    | cons y l =>
      obtain ⟨e,he,hk⟩:=h.b k (by rw [hg];simp)
      exact absurd hk (lookE_none hl e he)
theorem GrpOK.step{ns ts:List Int}{i:Nat}{L:List Ent}{k x:Int}(hk:ns[i]? = some k)(hx:ts[i]? = some x)(h:GrpOK ns ts i L)(e:Ent)(hek:e.k=k)(hel:e.l=lookL L k++[x]):GrpOK ns ts (i+1) (putE L e):=by
  refine ⟨fun y hy => ?_,fun g hg => ?_⟩
  · rcases mem_putE.1 hy with ⟨h1,h2⟩ | rfl
    · obtain ⟨q1,q2⟩:=h.a y h1
      refine ⟨?_,q2⟩
      rw [grp_succ hk hx,if_neg (fun h=>h2 (by rw [hek,h])),List.append_nil]
      exact q1
    · refine ⟨?_,by rw [hel];simp⟩
      rw [hel,h.look,grp_succ hk hx,hek,if_pos rfl]
  · by_cases hgk:g=k
    · exact ⟨e,mem_putE.2 (.inr rfl),by rw [hek,hgk]⟩
    · rw [grp_succ hk hx,if_neg (fun h=>hgk h.symm),List.append_nil] at hg
      obtain ⟨y,hy,hyk⟩:=h.b g hg
      exact ⟨y,mem_putE.2 (.inl ⟨hy,by rw [hyk,hek];exact hgk⟩),hyk⟩

def PsiM(f:PV→St)(G:List Ent→Prop):SR:=fun st R=>∃ mb es cl L,st=f (mpv mb)∧R=mapR mb es cl L∧MapOK mb es L∧G L
def PsiK(f:PV→St)(n:Nat)(G:List Ent→Prop):SR:=fun st R=>∃ mb es cl L,st=f (mpv mb)∧(mb,Obj.map es cl)∈R∧(∀ e∈L,(n:Int)≤e.k→e.blk∈R)∧MapOK mb es L∧G L
section
variable {c:Code} {f f':PV→St} {G:List Ent→Prop} {e:Ex}
theorem CodeR.ofM(h:∀ mb,CodeOK Tryz.prog 0 c (f (mpv mb)) e (f' (mpv mb))):CodeR Tryz.prog 0 c (PsiM f G) e (PsiM f' G):=CodeR.of fun st R ⟨mb,es,cl,L,h1,h2,h3,h4⟩=>⟨_,⟨mb,es,cl,L,rfl,h2,h3,h4⟩,h1 ▸ h mb⟩
theorem CodeR.ofK{n n':Nat}(hn:n≤n')(h:∀ mb,CodeOK Tryz.prog 0 c (f (mpv mb)) e (f' (mpv mb))):CodeR Tryz.prog 0 c (PsiK f n G) e (PsiK f' n' G):=CodeR.of fun st R ⟨mb,es,cl,L,h1,h2,h3,h4,h5⟩=>⟨_,⟨mb,es,cl,L,rfl,h2,fun e he hk=>h3 e he (by omega),h4,h5⟩,h1 ▸ h mb⟩
end

theorem ops10_ex:∃ l:List Oper,sub (cd Tryz.f22) [1,1,1,0] = .region 10 l.toArray false∧l.map (fun o=>(o.op,o.dst,o.guard))=[(.makeMap 124 none,some 61,none),(.assign (.tmp 61),some 12,none)] :=
  ⟨match sub (cd Tryz.f22) [1,1,1,0] with | .region _ ops _=>ops.toList | _=>[],by kernel_rfl,by kernel_rfl⟩
theorem r10{c:KL.Cup}{ns:List Int}{mo:Int}{qs ts:List Int}:CodeR Tryz.prog 0 (sub (cd Tryz.f22) [1,1,1,0]) (fun st R=>st=stT c ns mo qs∧R=[]) .normal (PsiM (stA c ns mo qs) (GrpOK ns ts 0)):=by
  obtain ⟨l,hc,hops⟩:=ops10_ex
  rw [hc]
  refine CodeR.hand fun C0 M0 w0 a w st R hM0 hΨ hd hs => ?_
  obtain ⟨rfl,rfl⟩:=hΨ
  obtain ⟨o0,l0,rfl,h0,hops⟩:=List.map_eq_cons_iff.1 hops
  obtain ⟨o1,l1,rfl,h1,hops⟩:=List.map_eq_cons_iff.1 hops
  obtain rfl:=List.map_eq_nil_iff.1 hops
  obtain ⟨q0,h0⟩:=Prod.mk.inj h0
  obtain ⟨d0,g0⟩:=Prod.mk.inj h0
  obtain ⟨q1,h1⟩:=Prod.mk.inj h1
  obtain ⟨d1,g1⟩:=Prod.mk.inj h1
  have hsz:a.tmps.size=161:=hs.size
  obtain ⟨n1,n2,n3⟩:=heap_push w (.map #[] 0)
  refine wp_region_lit (lex_one (id:=10) g0 (ex_makeMap q0) (lex_one (id:=10) g1 (ex_assign (v := .map (some w.heap.size)) q1 (by rw [d0,eval_put_same (by omega)])) ?_))
  refine wpList_nil ⟨rfl,_,_,⟨w.heap.size,#[],0,[],rfl,rfl,MapOK.nil _,GrpOK.nil _ _⟩,?_,?_⟩
  · intro p hp q hq
    rcases mem_mapR.1 hp with rfl | ⟨e,he,_⟩
    · intro hpq
      have:=lt_of_some (hs.has q (List.mem_append_right _ hq))
      change w.heap.size=q.1 at hpq
      omega
    · simp at he
  · have h2:=hs.beside (R':=mapR w.heap.size #[] 0 []++C0.R) (w':=w.alloc (.map #[] 0)) (fun _=>False) (fun _ h=>h.elim) rfl rfl rfl (by omega) (fun b hb _=>n3 b hb) (fun p hp=>by
      rcases List.mem_append.1 hp with hp | hp
      · rcases mem_mapR.1 hp with rfl | ⟨e,he,_⟩
        · exact .inr ⟨n2,(fun h=>by cases h),.inl (Nat.le_refl _)⟩
        · simp at he
      · exact .inl ⟨List.mem_append_right _ hp,fun h=>h⟩)
    have h3:=(h2.any o0.dst (.map (some w.heap.size)) (fun i hi=>by rw [d0] at hi;cases hi;rfl)).put (some 12) (x := .p (mpv w.heap.size)) (u := .map (some w.heap.size)) (fun _ _ => .p _ _ (.v _))
    rw [d1]
    exact h3

theorem ops20_ex:∃ l:List Oper,sub (cd Tryz.f22) [1,1,1,1,1,1,0,1,0,0,1,1,0,0,1,0] = .region 20 l.toArray false∧l.map (fun o=>(o.op,o.dst,o.guard))=[(.move (.tmp 12),some 88,none),(.move (.tmp 16),some 89,none),(.lookup 124 (.tmp 88) (.tmp 89) false,some 90,none),(.assign (.tmp 90),some 17,none)] :=
  ⟨match sub (cd Tryz.f22) [1,1,1,1,1,1,0,1,0,0,1,1,0,0,1,0] with | .region _ ops _=>ops.toList | _=>[],by kernel_rfl,by kernel_rfl⟩
theorem wf_int{n:Nat}(h:n≤1000):(Lit.int .i64 (n:Int)).wf=true:=by
  simp [Lit.wf,IntKind.min,IntKind.max,IntKind.bits,IntKind.signed]
  omega
theorem r20a{ns ts:List Int}{mo:Int}{qs:List Int}{n:Nat}{o:List (List Int)}{N:Nat}(hn:n≤1000)(K:Act→World→Prop){C0:Cx}{a:Act}{R:List (Nat × Obj)}{mb cl:Nat}{es:Array MapEntry}{L:List Ent}{Q:Exit→Act→World→Prop}(hm:(mb,Obj.map es cl)∈R)(hM:MapOK mb es L)
    (hs:Sim Tryz.prog (C0.with (R++C0.R)) M0 w0 (stG ns mo qs (mpv mb) n o) a w)
    (h:∀ a',(a'.tmps.getD 17 undef=lookV L n)→Sim Tryz.prog (C0.with (R++C0.R)) M0 w0 ⟨KV.put (stG ns mo qs (mpv mb) n o).t (some 17) .any,(stG ns mo qs (mpv mb) n o).m⟩ a' w→Q .normal a' w) :
    (sub (cd Tryz.f22) [1,1,1,1,1,1,0,1,0,0,1,1,0,0,1,0]).wp Tryz.prog Q a w:=by
  obtain ⟨l,hc,hops⟩:=ops20_ex
  rw [hc]
  obtain ⟨o0,l0,rfl,h0,hops⟩:=List.map_eq_cons_iff.1 hops
  obtain ⟨o1,l1,rfl,h1,hops⟩:=List.map_eq_cons_iff.1 hops
  obtain ⟨o2,l2,rfl,h2,hops⟩:=List.map_eq_cons_iff.1 hops
  obtain ⟨o3,l3,rfl,h3,hops⟩:=List.map_eq_cons_iff.1 hops
  obtain rfl:=List.map_eq_nil_iff.1 hops
  obtain ⟨q0,h0⟩:=Prod.mk.inj h0
  obtain ⟨d0,g0⟩:=Prod.mk.inj h0
  obtain ⟨q1,h1⟩:=Prod.mk.inj h1
  obtain ⟨d1,g1⟩:=Prod.mk.inj h1
  obtain ⟨q2,h2⟩:=Prod.mk.inj h2
  obtain ⟨d2,g2⟩:=Prod.mk.inj h2
  obtain ⟨q3,h3⟩:=Prod.mk.inj h3
  obtain ⟨d3,g3⟩:=Prod.mk.inj h3
  have hsz:a.tmps.size=161:=hs.size
  have V12:a.eval (.tmp 12) = .map (some mb):=hs.slot rfl
  have V16:a.eval (.tmp 16) = .int .i64 n:=hs.slot rfl
  have hmb:w.heap[mb]? = some (.map es cl):=hs.has (mb,.map es cl) (List.mem_append_left _ hm)
  refine wp_region_lit (lex_one (id:=20) g0 (ex_move (v := .map (some mb)) q0 V12) (lex_one (id:=20) g1 (ex_move (v := .int .i64 n) q1 (by rw [d0,eval_put_ne rfl];exact V16)) (lex_one (id:=20) g2 (ex_lookup (v := .map (some mb)) (u := .int .i64 n) (r:=lookV L n) q2 (by rw [d0,d1,eval_put_ne rfl,eval_put_same (by omega)]) (by rw [d0,d1,eval_put_same (by rw [put_size];omega)])
    (look_run Tryz.underlying124 Tryz.underlying3 rfl hmb hM (wf_int hn))) (lex_one (id:=20) g3 (ex_assign (v:=lookV L n) q3 (by rw [d2,eval_put_same (by rw [d0,d1,put_size,put_size];omega)])) ?_))))
  refine wpList_nil (h _ ?_ ?_)
  · rw [d0,d1,d2,d3]
    rw [← eval_tmp]
    exact eval_put_same (by rw [put_size,put_size,put_size];omega)
  · have h4:=((hs.any o0.dst (.map (some mb)) (fun i hi=>by rw [d0] at hi;cases hi;rfl)).any o1.dst (.int .i64 n) (fun i hi=>by rw [d1] at hi;cases hi;rfl)).any o2.dst (lookV L n) (fun i hi=>by rw [d2] at hi;cases hi;rfl)
    have h5:=h4.put (some 17) (x := .any) (u:=lookV L n) (fun _ _ => .any _)
    rw [d3]
    exact h5
theorem r20n{ns ts:List Int}{mo:Int}{qs:List Int}{n:Nat}{o:List (List Int)}{N:Nat}(hn:n≤1000)(hg:grp ns ts n N=[]):CodeR Tryz.prog 0 (sub (cd Tryz.f22) [1,1,1,1,1,1,0,1,0,0,1,1,0,0,1,0]) (PsiK (fun mv=>stG ns mo qs mv n o) n (GrpOK ns ts N)) .normal
    (PsiK (fun mv=>stN ns mo qs mv n o) n (GrpOK ns ts N)):=by
  refine CodeR.hand fun C0 M0 w0 a w st R hM0 hΨ hd hs => ?_
  obtain ⟨mb,es,cl,L,rfl,hm,hR,hM,hG⟩:=hΨ
  refine r20a (ts:=ts) (N:=N) hn (fun _ _=>True) hm hM hs fun a' hv hs'=>⟨rfl,_,R,⟨mb,es,cl,L,rfl,hm,hR,hM,hG⟩,hd,?_⟩
  have hl:lookV L n = .slice none 0 0:=by
    unfold lookV
    cases h:lookE L n with
    | none=>rfl
    | some e =>
      obtain ⟨h1,h2⟩:=lookE_some h
      obtain ⟨q1,q2⟩:=hG.a e h1
      rw [h2,hg] at q1
      exact absurd q1 q2
  have hput:a'.put (some 17) (.slice none 0 0)=a':=by
    unfold Act.put
    have hsz:a'.tmps.size=161:=hs'.size
    have:a'.tmps.setIfInBounds 17 (.slice none 0 0)=a'.tmps:=by
      apply Array.ext
      · simp
      · intro j h1 h2
        rw [Array.getElem_setIfInBounds (by simpa using h1)]
        split
        · rename_i e
          subst e
          rw [hl,Array.getD_eq_getD_getElem?,Array.getElem?_eq_getElem h2] at hv
          exact hv.symm
        · rfl
    simp only [this]
  have h5:=hs'.put (some 17) (x := .p nilS) (u := .slice none 0 0) (fun _ _ => .p _ _ (.v _))
  rw [hput] at h5
  exact h5
theorem r20c{ns ts:List Int}{mo:Int}{qs:List Int}{n:Nat}{o:List (List Int)}{N:Nat}{y:Int}{l:List Int}(hn:n≤1000)(hg:grp ns ts n N=y::l):CodeR Tryz.prog 0 (sub (cd Tryz.f22) [1,1,1,1,1,1,0,1,0,0,1,1,0,0,1,0]) (PsiK (fun mv=>stG ns mo qs mv n o) n (GrpOK ns ts N)) .normal
    (PsiK (fun mv=>stH ns mo qs mv n o y l) (n+1) (GrpOK ns ts N)):=by
  refine CodeR.hand fun C0 M0 w0 a w st R hM0 hΨ hd hs => ?_
  obtain ⟨mb,es,cl,L,rfl,hm,hR,hM,hG⟩:=hΨ
  obtain ⟨e,he,hek⟩:=hG.b n (by rw [hg];simp)
  obtain ⟨q1,q2⟩:=hG.a e he
  rw [hek,hg] at q1
  have heR:=hR e he (by rw [hek];omega)
  have hl:lookV L n=e.val:=by unfold lookV;rw [lookE_mem hM.keys he hek]
  refine r20a (ts:=ts) (N:=N) hn (fun _ _=>True) hm hM hs fun a' hv hs'=>⟨rfl,_,R.filter (fun p=>p.1 != e.b),⟨mb,es,cl,L,rfl,List.mem_filter.2 ⟨hm,by simpa using (hM.b_mb he).symm⟩,fun e' he' hk=>List.mem_filter.2 ⟨hR e' he' (by omega),?_⟩,hM,hG⟩,fun p hp=>hd p ((List.mem_filter.1 hp).1),?_⟩
  · simp only [Ent.blk,bne_iff_ne,ne_eq]
    intro hb
    have:=hM.b_inj he' he hb
    rw [this,hek] at hk
    omega
  · have h6:=hs'.less (R':=e.blk::(R.filter (fun p=>p.1 != e.b)++C0.R)) (fun p hp=>by
      rcases List.mem_cons.1 hp with rfl | hp
      · exact List.mem_append_left _ heR
      · rcases List.mem_append.1 hp with hp | hp
        · exact List.mem_append_left _ ((List.mem_filter.1 hp).1)
        · exact List.mem_append_right _ hp)
    obtain ⟨i,hi,hsz⟩:=size3
    have hok:=hM.ok e he
    have hat:=hok.at_
    obtain ⟨r1,r2⟩:=vals_arr (w:=w) (fun _=>True) hat
    have h7:=h6.hand (k:=1) (d:=17) (n:=e.l.length) (cap:=e.cap) (cs:=e.l.map intP) (i:=i) (fun p hp=>by
        rcases List.mem_append.1 hp with hp | hp
        · simpa using (List.mem_filter.1 hp).2
        · exact fun h=>hd e.blk heR p hp h.symm) (by omega) (fun o ho=>by cases ho) (by rw [hv,hl];rfl) hi (by rw [hsz,Nat.mul_one];exact hok.sz) (by rw [hsz];simp) hok.le hok.cap
      (fun F j hj=>(vals_arr (w:=w) F hat).1 j hj) r2
    rw [q1] at h7
    exact h7
end KV
end Go.Proofs
end
section
namespace Go.Proofs
open KL Go.RowKit
namespace KV

abbrev stB6(ns:List Int)(mo:Int)(qs:List Int)(mv:PV)(ts:List Int)(i:Nat):St:=⟨fr 161 [(1,(.p (intsP ns))),(2,(.p (intP mo))),(3,(.p (intsP qs))),(12,(.p mv)),(63,(.p (intsP ts))),(64,(.p (intP (ts.length:Int)))),(65,(.p (intP (i:Int)))),(66,(.p (blP (decide ((i:Int)<(ts.length:Int))))))],[]⟩
abbrev stF6(ns:List Int)(mo:Int)(qs:List Int)(mv:PV)(n:Nat)(o:List (List Int)):St:=⟨fr 161 [(1,(.p (intsP ns))),(2,(.p (intP mo))),(3,(.p (intsP qs))),(12,(.p mv)),(15,(.own 0)),(85,(.p (intP (n:Int)))),(86,(.p (blP (decide ((n:Int)<(31:Int))))))],[some (.row 40 o.length (o.flatten.map intP))]⟩
theorem nat_loop1{ns ts:List Int}{mo:Int}{qs:List Int}(hl:ns.length=ts.length)(hw:∀ k∈ns,(Lit.int .i64 k).wf=true)(hN:ts.length≤1000) :
    CodeR Tryz.prog 0 (sub (cd Tryz.f22) [1,1,1,1,0,1]) (PsiM (fun mv=>stB ns mo qs mv ts 0) (GrpOK ns ts 0)) .normal (PsiM (fun mv=>stB ns mo qs mv ts ts.length) (GrpOK ns ts ts.length)):=by
  rw [show sub (cd Tryz.f22) [1,1,1,1,0,1] = .block 1 (.loop (sub (cd Tryz.f22) [1,1,1,1,0,1,0,0])) from by kernel_rfl]
  refine CodeR.block (LoopR.code (LoopR.times ts.length (fun i=>PsiM (fun mv=>stB ns mo qs mv ts i) (GrpOK ns ts i)) (fun i hi => ?_) ?_ (by simp)))
  · rw [show sub (cd Tryz.f22) [1,1,1,1,0,1,0,0] = .seq (sub (cd Tryz.f22) [1,1,1,1,0,1,0,0,0]) (.seq (sub (cd Tryz.f22) [1,1,1,1,0,1,0,0,1,0]) (.seq (.block 2 (.seq (sub (cd Tryz.f22) [1,1,1,1,0,1,0,0,1,1,0,0,0]) (sub (cd Tryz.f22) [1,1,1,1,0,1,0,0,1,1,0,0,1]))) (sub (cd Tryz.f22) [1,1,1,1,0,1,0,0,1,1,1]))) from by kernel_rfl]
    obtain ⟨k,hk⟩:∃ k,ns[i]? = some k:=⟨_,List.getElem?_eq_getElem (by omega)⟩
    obtain ⟨x,hx⟩:∃ x,ts[i]? = some x:=⟨_,List.getElem?_eq_getElem hi⟩
    have hr:CodeR Tryz.prog 0 (sub (cd Tryz.f22) [1,1,1,1,0,1,0,0,1,1,0,0,1]) (PsiM (fun mv=>stD ns mo qs mv ts i x) (GrpOK ns ts i)) .normal (PsiM (fun mv=>stD ns mo qs mv ts i x) (GrpOK ns ts (i+1))) :=
      r14 (G:=GrpOK ns ts i) (G':=GrpOK ns ts (i+1)) hk (hw k (List.mem_of_getElem? hk)) (fun L hG e he=>by
        rw [(hG.a e he).1]
        have:=grp_len ns ts e.k i
        omega) (fun L e mb es hG hM hek hel=>hG.step hk hx e hek hel)
    exact CodeR.seq (CodeR.ofM (f':=fun mv=>stB6 ns mo qs mv ts i) fun mb=>n12_p0) (CodeR.seq (CodeR.ofM (f':=fun mv=>stB ns mo qs mv ts i) fun mb=>n12c_p0 (by omega)) (CodeR.seq (CodeR.blockn (CodeR.seq (CodeR.ofM (f':=fun mv=>stD ns mo qs mv ts i x) fun mb=>n13_p0 hx) hr)) (CodeR.ofM (f:=fun mv=>stD ns mo qs mv ts i x) (f':=fun mv=>stB ns mo qs mv ts (i+1)) fun mb=>n15_p0 (inR_nat (by omega)))))
  · rw [show sub (cd Tryz.f22) [1,1,1,1,0,1,0,0] = .seq (sub (cd Tryz.f22) [1,1,1,1,0,1,0,0,0]) (.seq (sub (cd Tryz.f22) [1,1,1,1,0,1,0,0,1,0]) (sub (cd Tryz.f22) [1,1,1,1,0,1,0,0,1,1])) from by kernel_rfl]
    exact CodeR.seq (CodeR.ofM (f':=fun mv=>stB6 ns mo qs mv ts ts.length) fun mb=>n12_p0) (CodeR.seqx (CodeR.ofM fun mb=>n12c_p1 (by omega)) (by simp))

def bestS(mo:Int)(l:List Int):Int:=((downI l).take (min mo.toNat l.length)).sum
def outG(ns ts:List Int)(mo:Int)(N g:Nat):List (List Int):=if grp ns ts g N=[] then [] else [[(g:Int),1,bestS mo (grp ns ts g N),0]]
def outL(ns ts:List Int)(mo:Int)(N n:Nat):List (List Int):=(List.range n).flatMap (outG ns ts mo N)
theorem outL_succ(ns ts:List Int)(mo:Int)(N n:Nat):outL ns ts mo N (n+1)=outL ns ts mo N n++outG ns ts mo N n:=by
  unfold outL
  rw [List.range_succ,List.flatMap_append,List.flatMap_singleton]
theorem outL_len(ns ts:List Int)(mo:Int)(N n:Nat):(outL ns ts mo N n).length≤n:=by
  induction n with
  | zero=>simp [outL]
  | succ n ih =>
    rw [outL_succ,List.length_append]
    have:(outG ns ts mo N n).length≤1:=by unfold outG;split <;> simp
    omega
theorem sum_bd{l:List Int}(h:∀ x∈l,0≤x∧x≤1000000):0≤l.sum∧l.sum≤1000000*l.length:=by
  induction l with
  | nil=>simp
  | cons x r ih =>
    have h1:=h x (List.mem_cons_self ..)
    have h2:=ih fun y hy=>h y (List.mem_cons_of_mem _ hy)
    rw [List.sum_cons,List.length_cons]
    omega
theorem grp_mem{ns ts:List Int}{g x:Int}{i:Nat}(h:x∈grp ns ts g i):x∈ts:=by
  unfold grp at h
  obtain ⟨p,hp,hx⟩:=List.mem_filterMap.1 h
  split at hx
  · cases hx
    exact (List.of_mem_zip (List.mem_of_mem_take hp)).2
  · cases hx
theorem downI_mem{l:List Int}{x:Int}:x∈downI l↔x∈l:=isort_mem _ _ _
theorem downI_len(l:List Int):(downI l).length=l.length:=isort_length _ _

theorem nat_loop2{ns ts:List Int}{mo:Int}{qs:List Int}(hl:ns.length=ts.length)(hN:ts.length≤12)(hmo:1≤mo∧mo≤12)(hts:∀ x∈ts,0≤x∧x≤1000000) :
    CodeR Tryz.prog 0 (sub (cd Tryz.f22) [1,1,1,1,1,1,0,1]) (PsiK (fun mv=>stF ns mo qs mv 0 []) 0 (GrpOK ns ts ts.length)) .normal (PsiK (fun mv=>stF ns mo qs mv 31 (outL ns ts mo ts.length 31)) 31 (GrpOK ns ts ts.length)):=by
  rw [show sub (cd Tryz.f22) [1,1,1,1,1,1,0,1] = .block 3 (.loop (sub (cd Tryz.f22) [1,1,1,1,1,1,0,1,0,0])) from by kernel_rfl]
  refine CodeR.block (LoopR.code (LoopR.times 31 (fun n=>PsiK (fun mv=>stF ns mo qs mv n (outL ns ts mo ts.length n)) n (GrpOK ns ts ts.length)) (fun n hn => ?_) ?_ (by simp)))
  · rw [show sub (cd Tryz.f22) [1,1,1,1,1,1,0,1,0,0] = .seq (sub (cd Tryz.f22) [1,1,1,1,1,1,0,1,0,0,0]) (.seq (sub (cd Tryz.f22) [1,1,1,1,1,1,0,1,0,0,1,0]) (.seq (.block 4 (.seq (sub (cd Tryz.f22) [1,1,1,1,1,1,0,1,0,0,1,1,0,0,0]) (.seq (sub (cd Tryz.f22) [1,1,1,1,1,1,0,1,0,0,1,1,0,0,1,0]) (.seq (sub (cd Tryz.f22) [1,1,1,1,1,1,0,1,0,0,1,1,0,0,1,1,0]) (sub (cd Tryz.f22) [1,1,1,1,1,1,0,1,0,0,1,1,0,0,1,1,1]))))) (sub (cd Tryz.f22) [1,1,1,1,1,1,0,1,0,0,1,1,1]))) from by kernel_rfl]
    refine CodeR.seq (CodeR.ofK (f':=fun mv=>stF6 ns mo qs mv n (outL ns ts mo ts.length n)) (Nat.le_refl _) fun mb=>n18_p0) (CodeR.seq (CodeR.ofK (f':=fun mv=>stF ns mo qs mv n (outL ns ts mo ts.length n)) (Nat.le_refl _) fun mb=>n18c_p0 (by omega)) (CodeR.seq (Ψ1:=PsiK (fun mv=>stF ns mo qs mv n (outL ns ts mo ts.length (n+1))) (n+1) (GrpOK ns ts ts.length)) ?_ (CodeR.ofK (Nat.le_refl _) fun mb=>n24_p0 (inR_nat (by omega)))))
    have hol:=outL_len ns ts mo ts.length n
    cases hg:grp ns ts n ts.length with
    | nil =>
      have e1:outL ns ts mo ts.length (n+1)=outL ns ts mo ts.length n:=by rw [outL_succ,outG,if_pos hg,List.append_nil]
      rw [e1]
      exact CodeR.block (CodeR.seq (CodeR.ofK (f':=fun mv=>stG ns mo qs mv n (outL ns ts mo ts.length n)) (Nat.le_refl _) fun mb=>n19_p0) (CodeR.seq (r20n (by omega) hg) (CodeR.seqx (CodeR.ofK (by omega) fun mb=>n21n_p0) (by simp))))
    | cons y l =>
      have hgl:=grp_len ns ts n ts.length
      rw [hg] at hgl
      have hd:=downI_len (y::l)
      have hmin:(if mo<(((downI (y::l)).length:Nat):Int) then mo else (((downI (y::l)).length:Nat):Int))=((min mo.toNat (y::l).length:Nat):Int):=by
        rw [hd];split <;> omega
      have hle:min mo.toNat (y::l).length≤(downI (y::l)).length:=by rw [hd];omega
      have htk:((downI (y::l)).take (min mo.toNat (y::l).length)).length=min mo.toNat (y::l).length:=by rw [List.length_take];omega
      have hmem:∀ j,∀ x∈(((downI (y::l)).take (min mo.toNat (y::l).length)).take j),0≤x∧x≤1000000:=fun j x hx=>hts x (grp_mem (g:=(n:Int)) (i:=ts.length) (by rw [hg];exact downI_mem.1 (List.mem_of_mem_take (List.mem_of_mem_take hx))))
      have e1:outL ns ts mo ts.length (n+1)=outL ns ts mo ts.length n++[[(n:Int),1,((downI (y::l)).take (min mo.toNat (y::l).length)).sum,0]]:=by
        rw [outL_succ,outG,if_neg (by rw [hg];simp),hg];rfl
      refine CodeR.blockn (CodeR.seq (CodeR.ofK (f':=fun mv=>stG ns mo qs mv n (outL ns ts mo ts.length n)) (Nat.le_refl _) fun mb=>n19_p0) (CodeR.seq (r20c (by omega) hg) (CodeR.seq (CodeR.ofK (f':=fun mv=>stH ns mo qs mv n (outL ns ts mo ts.length n) y l) (Nat.le_refl _) fun mb=>n21_p0) (CodeR.ofK (Nat.le_refl _) fun mb=>n22_p0 (l0:=(downI (y::l)).take (min mo.toNat (y::l).length)) ?_ (by simp) ?_ ?_ ?_ ?_ ?_ ?_ ?_ ?_))))
      · omega
      · rw [hmin];omega
      · rw [hmin,htk];omega
      · rw [hmin,Nat.sub_zero,Int.toNat_natCast,List.drop_zero,List.length_map,Nat.div_self (by rw [hd];simp),Nat.mul_one,List.map_take]
      · unfold small;rw [htk];simp only [List.length_cons] at hgl ⊢;omega
      · intro j
        have:=sum_bd (hmem j)
        have h2:(((downI (y::l)).take (min mo.toNat (y::l).length)).take j).length≤12:=by
          rw [List.length_take,htk];simp only [List.length_cons] at hgl ⊢;omega
        unfold inR
        omega
      · exact ⟨rfl,by omega⟩
      · rw [e1,List.length_append];rfl
      · rw [e1,List.flatten_append,List.map_append];rfl
  · rw [show sub (cd Tryz.f22) [1,1,1,1,1,1,0,1,0,0] = .seq (sub (cd Tryz.f22) [1,1,1,1,1,1,0,1,0,0,0]) (.seq (sub (cd Tryz.f22) [1,1,1,1,1,1,0,1,0,0,1,0]) (sub (cd Tryz.f22) [1,1,1,1,1,1,0,1,0,0,1,1])) from by kernel_rfl]
    exact CodeR.seq (CodeR.ofK (f':=fun mv=>stF6 ns mo qs mv 31 (outL ns ts mo ts.length 31)) (Nat.le_refl _) fun mb=>n18_p0) (CodeR.seqx (CodeR.ofK (Nat.le_refl _) fun mb=>n18c_p1 (by omega)) (by simp))
end KV
end Go.Proofs
end
section
namespace Go.Proofs
open KL Go.RowKit
namespace KV

theorem LoopOK.count{P:Program}{k:Nat}{b:Code}{e:Ex}{R:St}(N:Nat)(S:Nat→St)(hs:∀ i,i<N→CodeOK P k b (S i) .normal (S (i+1)))(hx:CodeOK P k b (S N) e R)(he:e ≠ .normal):LoopOK P k b (S 0) e R:=by
  have key:∀ d i,i+d=N→LoopOK P k b (S i) e R:=by
    intro d
    induction d with
    | zero => intro i hi;obtain rfl:i=N:=by omega
              exact .exit hx he
    | succ d ih=>intro i hi;exact .step (hs i (by omega)) (ih (i+1) (by omega))
  exact key N 0 (by omega)

theorem fl_setf{k i f:Nat}{L:List (List Int)}{x:List Int}{y:Int}(h:uni k L)(hx:L[i]? = some x)(hf:f<k):(L.flatten.map intP).set (i*k+f) (intP y)=((L.set i (x.set f y)).flatten.map intP):=by
  have hi:=(List.getElem?_eq_some_iff.1 hx).1
  have hxl:x.length=k:=h x (List.mem_of_getElem? hx)
  have e:L=L.take i++x::L.drop (i+1):=by
    conv=>lhs;rw [← List.take_append_drop i L]
    congr 1
    rw [List.drop_eq_getElem_cons hi]
    congr 1
    exact (List.getElem?_eq_some_iff.1 hx).2
  have hA:(L.take i).flatten.length=i*k:=by
    rw [fl_len (fun y hy=>h y (List.mem_of_mem_take hy)),List.length_take]
    congr 1;omega
  have hset:L.set i (x.set f y)=L.take i++(x.set f y)::L.drop (i+1):=by
    rw [List.set_eq_take_append_cons_drop,if_pos hi]
  rw [hset,← List.map_set]
  congr 1
  conv=>lhs;rw [e]
  rw [List.flatten_append,List.flatten_cons,List.flatten_append,List.flatten_cons]
  rw [List.set_append_right _ _ (by omega),hA,Nat.add_sub_cancel_left,List.set_append_left _ _ (by omega)]

def rkOf(P:List Int)(v:Int)(j:Nat):Int:=1+(((P.take j).filter fun q=>decide (v<q)).length:Int)
theorem rkOf_zero(P:List Int)(v:Int):rkOf P v 0=1:=by simp [rkOf]
theorem rkOf_succ{P:List Int}{v q:Int}{j:Nat}(h:P[j]? = some q):rkOf P v (j+1)=if v<q then rkOf P v j+1 else rkOf P v j:=by
  unfold rkOf
  rw [List.take_add_one,h,List.filter_append,List.length_append]
  split <;> rename_i h2 <;> simp [h2] <;> omega
theorem rkOf_bd(P:List Int)(v:Int)(j:Nat):1≤rkOf P v j∧rkOf P v j≤1+j:=by
  unfold rkOf
  have:=Nat.le_trans (List.length_filter_le (fun q=>decide (v<q)) (P.take j)) (List.length_take_le j P)
  omega
def qtOf(qs:List Int)(rk:Int):Int:=if rk≤qs.length then qs.getD (rk-1).toNat 0 else 0
abbrev pts3(o:List (List Int)):List Int:=o.map fun x=>x.getD 2 0
def finR(qs P:List Int)(x:List Int):List Int:=[x.getD 0 0,rkOf P (x.getD 2 0) P.length,x.getD 2 0,qtOf qs (rkOf P (x.getD 2 0) P.length)]
def natL(qs:List Int)(o:List (List Int)):List (List Int):=isort (ltK 1) (o.map (finR qs (pts3 o)))
def midL(qs:List Int)(o:List (List Int))(i:Nat):List (List Int):=(o.take i).map (finR qs (pts3 o))++o.drop i
def Pt(P:List Int)(r:List (List Int)):Prop:=r.length=P.length∧∀ (j:Nat) (q:Int),P[j]? = some q→∃ a b d,r[j]? = some [a,b,q,d]
theorem Pt.uni{P:List Int}{r:List (List Int)}(h:Pt P r):uni 4 r:=fun x hx=>by
  obtain ⟨j,hj,rfl⟩:=List.getElem_of_mem hx
  obtain ⟨a,b,d,hr⟩:=h.2 j (P[j]'(by rw [← h.1];exact hj)) (List.getElem?_eq_getElem _)
  rw [List.getElem?_eq_getElem hj] at hr
  rw [Option.some.inj hr];rfl
theorem Pt.set{P:List Int}{r:List (List Int)}{i:Nat}{a b q d:Int}(h:Pt P r)(hq:P[i]? = some q):Pt P (r.set i [a,b,q,d]):=by
  refine ⟨by rw [List.length_set];exact h.1,fun j q' hj => ?_⟩
  have hjl:=(List.getElem?_eq_some_iff.1 hj).1
  have hrl:=h.1
  rw [List.getElem?_set]
  by_cases e:i=j
  · subst e
    rw [hq] at hj;cases hj
    rw [if_pos rfl,if_pos (by omega)]
    exact ⟨a,b,d,rfl⟩
  · rw [if_neg e];exact h.2 j q' hj
def Base(o:List (List Int)):Prop:=∀ x∈o,∃ g s,x=[g,1,s,0]
theorem base_outL(ns ts:List Int)(mo:Int)(N n:Nat):Base (outL ns ts mo N n):=fun x hx=>by
  unfold outL at hx
  obtain ⟨g,hg,hx⟩:=List.mem_flatMap.1 hx
  unfold outG at hx
  split at hx
  · simp at hx
  · simp at hx;exact ⟨_,_,hx⟩
theorem mid_at{qs:List Int}{o:List (List Int)}{i j:Nat}(hi:i≤o.length):(midL qs o i)[j]? = if j<i then (o[j]?).map (finR qs (pts3 o)) else o[j]? := by
  unfold midL
  by_cases h:j<i
  · rw [if_pos h,List.getElem?_append_left (by rw [List.length_map,List.length_take];omega),List.getElem?_map,List.getElem?_take,if_pos h]
  · rw [if_neg h,List.getElem?_append_right (by rw [List.length_map,List.length_take];omega),List.length_map,List.length_take,List.getElem?_drop]
    congr 1;omega
theorem mid_len{qs:List Int}{o:List (List Int)}{i:Nat}(hi:i≤o.length):(midL qs o i).length=o.length:=by
  unfold midL;rw [List.length_append,List.length_map,List.length_take,List.length_drop];omega
theorem mid_pt{qs:List Int}{o:List (List Int)}{i:Nat}(hb:Base o)(hi:i≤o.length):Pt (pts3 o) (midL qs o i):=by
  refine ⟨by rw [mid_len hi,List.length_map],fun j q hj => ?_⟩
  rw [mid_at hi]
  rw [List.getElem?_map] at hj
  cases ho:o[j]? with
  | none=>rw [ho] at hj;cases hj
  | some x =>
    rw [ho] at hj
    obtain ⟨g,s,rfl⟩:=hb x (List.mem_of_getElem? ho)
    simp at hj
    subst hj
    split
    · exact ⟨_,_,_,rfl⟩
    · exact ⟨_,_,_,rfl⟩
theorem mid_zero(qs:List Int)(o:List (List Int)):midL qs o 0=o:=by simp [midL]
theorem mid_end(qs:List Int)(o:List (List Int)):midL qs o o.length=o.map (finR qs (pts3 o)):=by simp [midL]
theorem mid_succ{qs:List Int}{o:List (List Int)}{i:Nat}{x:List Int}(h:o[i]? = some x):midL qs o (i+1)=(midL qs o i).set i (finR qs (pts3 o) x):=by
  have hi:=(List.getElem?_eq_some_iff.1 h).1
  apply List.ext_getElem?
  intro j
  rw [mid_at (by omega),List.getElem?_set,mid_len (by omega),mid_at (by omega)]
  by_cases e:i=j
  · subst e
    rw [if_pos (by omega),if_pos rfl,if_pos hi,h];rfl
  · rw [if_neg e]
    by_cases e2:j<i
    · rw [if_pos (by omega),if_pos e2]
    · rw [if_neg (by omega),if_neg e2]

section
variable {qs:List Int} {o:List (List Int)}
theorem nat_inner(hb:Base o)(ho:o.length≤31){i:Nat}{g s:Int}(hx:o[i]? = some [g,1,s,0]) :
    LoopOK Tryz.prog 0 (sub (cd Tryz.f22) [1,1,1,1,1,1,1,0,1,0,0,1,1,0,0,1,0,1,0,0]) (nat_S3 qs o i (midL qs o i) 0 (midL qs o i).length ((midL qs o i).flatten.map intP)) (.exit 7)
      (nat_S3 qs o i (midL qs o i) o.length ((midL qs o i).set i [g,rkOf (pts3 o) s o.length,s,0]).length (((midL qs o i).set i [g,rkOf (pts3 o) s o.length,s,0]).flatten.map intP)):=by
  have hi:=(List.getElem?_eq_some_iff.1 hx).1
  have hml:(midL qs o i).length=o.length:=mid_len (by omega)
  have hpt:Pt (pts3 o) (midL qs o i):=mid_pt hb (by omega)
  have hpi:(pts3 o)[i]? = some s:=by rw [List.getElem?_map,hx];rfl
  have hmi:(midL qs o i)[i]? = some [g,1,s,0]:=by rw [mid_at (by omega),if_neg (by omega),hx]
  have e0:(midL qs o i).set i [g,rkOf (pts3 o) s 0,s,0]=midL qs o i:=by
    rw [rkOf_zero]
    obtain ⟨h1,h2⟩:=List.getElem?_eq_some_iff.1 hmi
    rw [← h2];exact List.set_getElem_self h1
  have:=LoopOK.count (P:=Tryz.prog) (k:=0) (b:=sub (cd Tryz.f22) [1,1,1,1,1,1,1,0,1,0,0,1,1,0,0,1,0,1,0,0]) (e := .exit 7) (R:=nat_S3 qs o i (midL qs o i) o.length ((midL qs o i).set i [g,rkOf (pts3 o) s o.length,s,0]).length (((midL qs o i).set i [g,rkOf (pts3 o) s o.length,s,0]).flatten.map intP)) o.length
    (fun j=>nat_S3 qs o i (midL qs o i) j ((midL qs o i).set i [g,rkOf (pts3 o) s j,s,0]).length (((midL qs o i).set i [g,rkOf (pts3 o) s j,s,0]).flatten.map intP)) (fun j hj => ?_) (nat_L3_p2 (by rw [hml];omega)) (by simp)
  · rw [e0] at this;exact this
  · have hr:Pt (pts3 o) ((midL qs o i).set i [g,rkOf (pts3 o) s j,s,0]):=hpt.set hpi
    obtain ⟨q,hq⟩:∃ q,(pts3 o)[j]? = some q:=⟨_,List.getElem?_eq_getElem (by rw [List.length_map];omega)⟩
    obtain ⟨a,b,d,hrj⟩:=hr.2 j q hq
    have hri:((midL qs o i).set i [g,rkOf (pts3 o) s j,s,0])[i]? = some [g,rkOf (pts3 o) s j,s,0]:=by
      rw [List.getElem?_set,if_pos rfl,if_pos (by omega)]
    have hbd:=rkOf_bd (pts3 o) s j
    have hsucc:=rkOf_succ (v:=s) hq
    by_cases hlt:s<q
    · rw [if_pos hlt] at hsucc
      refine nat_L3_p0 (r':=(midL qs o i).set i [g,rkOf (pts3 o) s (j+1),s,0]) (by rw [hml];omega) hrj hr.uni hri hlt (by unfold inR;omega) ?_ (inR_nat (by omega)) rfl (by rw [List.length_set,List.length_set]) ?_
      · rw [List.length_map,fl_len hr.uni,List.length_set,hml];omega
      · rw [fl_setf hr.uni hri (by decide),List.set_set,hsucc];rfl
    · rw [if_neg hlt] at hsucc
      rw [hsucc]
      exact nat_L3_p1 (by rw [hml];omega) hrj hr.uni hri (by omega) (inR_nat (by omega)) rfl

theorem nat_outer(hb:Base o)(ho:o.length≤31)(hqs:qs.length≤31):LoopOK Tryz.prog 0 (sub (cd Tryz.f22) [1,1,1,1,1,1,1,0,1,0,0]) (nat_S2 qs o 0 o.length (o.flatten.map intP)) (.exit 5)
    (nat_S2 qs o o.length (o.map (finR qs (pts3 o))).length ((o.map (finR qs (pts3 o))).flatten.map intP)):=by
  have:=LoopOK.count (P:=Tryz.prog) (k:=0) (b:=sub (cd Tryz.f22) [1,1,1,1,1,1,1,0,1,0,0]) (e := .exit 5) (R:=nat_S2 qs o o.length (o.map (finR qs (pts3 o))).length ((o.map (finR qs (pts3 o))).flatten.map intP)) o.length
    (fun i=>nat_S2 qs o i (midL qs o i).length ((midL qs o i).flatten.map intP)) (fun i hi => ?_) (by rw [mid_end];exact nat_L2_p2 (by omega)) (by simp)
  · rw [mid_zero] at this;exact this
  · obtain ⟨g,s,hgs⟩:=hb o[i] (List.getElem_mem hi)
    have hx:o[i]? = some [g,1,s,0]:=by rw [List.getElem?_eq_getElem hi,hgs]
    have hL:=nat_inner (qs:=qs) hb ho hx
    have hml:(midL qs o i).length=o.length:=mid_len (by omega)
    have hpt:Pt (pts3 o) (midL qs o i):=mid_pt hb (by omega)
    have hpi:(pts3 o)[i]? = some s:=by rw [List.getElem?_map,hx];rfl
    have hr:Pt (pts3 o) ((midL qs o i).set i [g,rkOf (pts3 o) s o.length,s,0]):=hpt.set hpi
    have hri:((midL qs o i).set i [g,rkOf (pts3 o) s o.length,s,0])[i]? = some [g,rkOf (pts3 o) s o.length,s,0]:=by
      rw [List.getElem?_set,if_pos rfl,if_pos (by omega)]
    have hbd:=rkOf_bd (pts3 o) s o.length
    have hpl:(pts3 o).length=o.length:=List.length_map _
    have efin:midL qs o (i+1)=(midL qs o i).set i [g,rkOf (pts3 o) s o.length,s,qtOf qs (rkOf (pts3 o) s o.length)]:=by
      rw [mid_succ hx];unfold finR;rw [hpl];rfl
    by_cases hle:rkOf (pts3 o) s o.length≤(qs.length:Int)
    · have hq:qs[(rkOf (pts3 o) s o.length-1).toNat]? = some (qtOf qs (rkOf (pts3 o) s o.length)):=by
        unfold qtOf
        rw [if_pos hle,List.getD_eq_getElem?_getD,List.getElem?_eq_getElem (by omega)];rfl
      refine nat_L2_p0 (by omega) hL hri hr.uni hle (by unfold inR;omega) hq (by omega) ?_ (inR_nat (by omega)) rfl (by rw [mid_len (by omega),List.length_set,hml]) ?_
      · rw [List.length_map,fl_len hr.uni,List.length_set,hml];omega
      · rw [fl_setf hr.uni hri (by decide),List.set_set,efin];rfl
    · have hq:qtOf qs (rkOf (pts3 o) s o.length)=0:=by unfold qtOf;rw [if_neg hle]
      rw [hq] at efin
      refine nat_L2_p1 (by omega) hL hri hr.uni (by omega) (inR_nat (by omega)) rfl (by rw [mid_len (by omega),List.length_set,hml]) (by rw [efin])
end

def nationsM(c:KL.Cup)(ns:List Int)(mo:Int)(qs:List Int):List (List Int):=natL qs (outL ns (KL.totalsM c) mo (KL.totalsM c).length 31)
def natE(c:KL.Cup)(ns:List Int)(mo:Int)(qs:List Int):Int :=
  if KL.checkP c≠0 then KL.checkP c else if (ns.length:Int)≠c.sk∨within (qs.length:Int) 1 31=false then 2 else
  if (ns.all fun x=>within x 0 30)=false∨within mo 1 12=false∨(qs.all fun x=>within x 0 20)=false then 3 else if KL.fallsB qs=false then 4 else 0
theorem nodup_le:∀ {S T:List Int},S.Nodup→(∀ g∈S,g∈T)→S.length≤T.length
  | [],_,_,_=>Nat.zero_le _
  | a::S,T,h,hs=>by
    obtain ⟨h1,h2⟩:=List.nodup_cons.1 h
    have ha:=hs a (List.mem_cons_self ..)
    have:=nodup_le (T:=T.erase a) h2 (fun g hg=>(List.mem_erase_of_ne (fun e=>h1 (by rw [← e];exact hg))).2 (hs g (List.mem_cons_of_mem _ hg)))
    rw [List.length_erase_of_mem ha] at this
    have:0<T.length:=List.length_pos_of_mem ha
    rw [List.length_cons]
    omega
theorem outL_few(ns ts:List Int)(mo:Int)(N n:Nat)(h:(ns.zip ts).length≤12):(outL ns ts mo N n).length≤12:=by
  have key:∀ n,∃ S:List Int,S.Nodup∧S.length=(outL ns ts mo N n).length∧(∀ g∈S,g∈(ns.zip ts).map (·.1))∧∀ g∈S,g<n:=by
    intro n
    induction n with
    | zero=>exact ⟨[],.nil,rfl,by simp,by simp⟩
    | succ n ih =>
      obtain ⟨S,h1,h2,h3,h4⟩:=ih
      rw [outL_succ]
      unfold outG
      split
      · exact ⟨S,h1,by simpa using h2,h3,fun g hg=>by have:=h4 g hg;omega⟩
      · rename_i hg
        refine ⟨(n:Int)::S,List.nodup_cons.2 ⟨fun hin=>by have:=h4 _ hin;omega,h1⟩,by simp [h2],fun g hg' => ?_,fun g hg' => ?_⟩
        · rcases List.mem_cons.1 hg' with rfl | hg'
          · obtain ⟨x,hx⟩:=List.exists_mem_of_ne_nil _ hg
            unfold grp at hx
            obtain ⟨p,hp,hx⟩:=List.mem_filterMap.1 hx
            split at hx
            · rename_i he
              exact List.mem_map.2 ⟨p,List.mem_of_mem_take hp,he⟩
            · cases hx
          · exact h3 g hg'
        · rcases List.mem_cons.1 hg' with rfl | hg'
          · omega
          · have:=h4 g hg';omega
  obtain ⟨S,h1,h2,h3,_⟩:=key n
  rw [← h2]
  have:=nodup_le h1 h3
  rw [List.length_map] at this
  omega
theorem nat_main{c:KL.Cup}{ns:List Int}{mo:Int}{qs:List Int}(hV:KL.Valid c)(hl:(ns.length:Int)=c.sk)(hns:∀ k∈ns,0≤k∧k≤30)(hmo:1≤mo∧mo≤12)(hqs:qs.length≤31)(htl:(KL.totalsM c).length=c.sk.toNat)(hts:∀ x∈KL.totalsM c,0≤x∧x≤1000000) :
    CodeOK Tryz.prog 0 (sub (cd Tryz.f22) [1,1,1]) (stT c ns mo qs) .ret ⟨fr 161 [(8,(.p (.sl (nationsM c ns mo qs).length ((nationsM c ns mo qs).flatten.map intP)))),(9,(.p (intP 0)))],[]⟩:=by
  have s1:=hV.sk1
  have s2:=hV.sk2
  refine CodeR.ok (by kernel_rfl) ?_
  rw [show sub (cd Tryz.f22) [1,1,1] = .seq (sub (cd Tryz.f22) [1,1,1,0]) (.seq (.seq (sub (cd Tryz.f22) [1,1,1,1,0,0]) (sub (cd Tryz.f22) [1,1,1,1,0,1])) (.seq (sub (cd Tryz.f22) [1,1,1,1,1,0]) (.seq (.seq (sub (cd Tryz.f22) [1,1,1,1,1,1,0,0]) (sub (cd Tryz.f22) [1,1,1,1,1,1,0,1])) (sub (cd Tryz.f22) [1,1,1,1,1,1,1])))) from by kernel_rfl]
  have htl':ns.length=(KL.totalsM c).length:=by omega
  have hw:∀ k∈ns,(Lit.int .i64 k).wf=true:=fun k hk=>by
    have:=hns k hk
    have h:=wf_int (n:=k.toNat) (by omega)
    rwa [Int.toNat_of_nonneg this.1] at h
  refine CodeR.seq (r10 (ts:=KL.totalsM c)) (CodeR.seq (CodeR.seq (CodeR.ofM (f':=fun mv=>stB ns mo qs mv (KL.totalsM c) 0) fun mb=>n11_p0 hV) (nat_loop1 htl' hw (by omega))) (CodeR.seq (CodeR.ofM (f':=fun mv=>⟨fr 161 [(1,(.p (intsP ns))),(2,(.p (intP mo))),(3,(.p (intsP qs))),(12,(.p mv)),(15,(.p nilS))],[]⟩) fun mb=>n16_p0) (CodeR.seq (CodeR.seq ?_ (nat_loop2 (qs:=qs) htl' (by omega) hmo hts)) ?_)))
  · refine (CodeR.ofM (f':=fun mv=>stF ns mo qs mv 0 []) fun mb=>n17_p0).mono (fun _ _ h=>h) (fun st R h => ?_)
    obtain ⟨mb,es,cl,L,h1,rfl,h3,h4⟩:=h
    exact ⟨mb,es,cl,L,h1,by simp [mapR],fun e he _=>by simp [mapR];exact .inr ⟨e,he,rfl⟩,h3,h4⟩
  · refine CodeR.of fun st R h=>⟨_,rfl,?_⟩
    obtain ⟨mb,es,cl,L,rfl,_⟩:=h
    have hol:=outL_len ns (KL.totalsM c) mo (KL.totalsM c).length 31
    have hb:=base_outL ns (KL.totalsM c) mo (KL.totalsM c).length 31
    have hlen:(outL ns (KL.totalsM c) mo (KL.totalsM c).length 31).length≤12:=outL_few _ _ _ _ _ (by rw [List.length_zip];omega)
    refine CodeOK.pre (g:=⟨[1,2,12,85],[0],[],[]⟩) (st1:=⟨fr 161 [(3,(.p (intsP qs))),(15,(.own 0))],[some (.row 40 (outL ns (KL.totalsM c) mo (KL.totalsM c).length 31).length ((outL ns (KL.totalsM c) mo (KL.totalsM c).length 31).flatten.map intP))]⟩) (by kernel_rfl) ?_
    exact n25_p0 (nat_outer hb hol hqs) (fun x hx=>by
      obtain ⟨y,hy,rfl⟩:=List.mem_map.1 hx
      rfl) (by rw [List.length_map];omega)
end KV
end Go.Proofs
end
namespace Go.Proofs
namespace KV
section
open KL
theorem zL6q0:((0:Int) != (0:Int))=false:=by first | decide | simp
theorem zL6q1:((0:Int) == (0:Int))=true:=by first | decide | simp
theorem zL6q2:((3:Int) == (3:Int))=true:=by first | decide | simp
theorem zL6q3:((1:Int) == (1:Int))=true:=by first | decide | simp
abbrev threeC:Cup:=⟨3,3,2,[10,6,4],[[1,2,3],[3,1,1]]⟩
abbrev twoC:Cup:=⟨2,4,4,[10,4],[[1,2],[1,2],[1,2]]⟩
theorem three_p0{base:Nat}:FV Tryz.prog 85 [] base (.p (.agg [(intP 3),(intP 3),(intP 2),(.sl 3 [(intP 10),(intP 6),(intP 4)]),(.sl 2 [(.sl 3 [(intP 1),(intP 2),(intP 3)]),(.sl 3 [(intP 3),(intP 1),(intP 1)])])])) []:=by
  exact FV.frz (FMM.fin (k:=0) (g:=⟨[],[],[1,4],[]⟩) rfl Tryz.func85 rfl (o:=[]) (l:=[]) (by kernel_rfl) (gn)) (by kernel_rfl)
theorem two_p0{base:Nat}:FV Tryz.prog 86 [] base (.p (.agg [(intP 2),(intP 4),(intP 4),(.sl 2 [(intP 10),(intP 4)]),(.sl 3 [(.sl 2 [(intP 1),(intP 2)]),(.sl 2 [(intP 1),(intP 2)]),(.sl 2 [(intP 1),(intP 2)])])])) []:=by
  exact FV.frz (FMM.fin (k:=0) (g:=⟨[],[],[1,5],[]⟩) rfl Tryz.func86 rfl (o:=[]) (l:=[]) (by kernel_rfl) (gn)) (by kernel_rfl)
theorem awake_p0(h34_0:∀ base:Nat,FV Tryz.prog 34 [(.p (.agg [(intP 3),(intP 3),(intP 2),(.sl 3 [(intP 10),(intP 6),(intP 4)]),(.sl 2 [(.sl 3 [(intP 1),(intP 2),(intP 3)]),(.sl 3 [(intP 3),(intP 1),(intP 1)])])]))] base (.tup [(.p (.sl 3 [(intP 1),(intP 1),(intP 14),(intP 1),(intP 0),(intP 2),(intP 14),(intP 1),(intP 2),(intP 3),(intP 12),(intP 1)])),(.p (intP 0))]) [])(h37_1:∀ base:Nat,FV Tryz.prog 37 [(.p (.agg [(intP 3),(intP 3),(intP 2),(.sl 3 [(intP 10),(intP 6),(intP 4)]),(.sl 2 [(.sl 3 [(intP 1),(intP 2),(intP 3)]),(.sl 3 [(intP 3),(intP 1),(intP 1)])])]))] base (.tup [(.p (.sl 3 [(intP 0),(intP 1),(intP 2)])),(.p (intP 0))]) [])(h38_2:∀ base:Nat,FV Tryz.prog 38 [(.p (.agg [(intP 3),(intP 3),(intP 2),(.sl 3 [(intP 10),(intP 6),(intP 4)]),(.sl 2 [(.sl 3 [(intP 1),(intP 2),(intP 3)]),(.sl 3 [(intP 3),(intP 1),(intP 1)])])]))] base (.tup [(.p (.sl 0 [])),(.p (intP 0))]) [])(h55_3:∀ base:Nat,FV Tryz.prog 55 [(.p (.agg [(intP 3),(intP 3),(intP 2),(.sl 3 [(intP 10),(intP 6),(intP 4)]),(.sl 2 [(.sl 3 [(intP 1),(intP 2),(intP 3)]),(.sl 3 [(intP 3),(intP 1),(intP 1)])])])),(.p (intP 1))] base (.tup [(.p (intP 3)),(.p (.sl 3 [(intP 1),(intP 0),(intP 2)])),(.p (intP 0))]) [])(h39_4:∀ base:Nat,FV Tryz.prog 39 [(.p (.sl 3 [(intP 1),(intP 1),(intP 14),(intP 1),(intP 0),(intP 2),(intP 14),(intP 1),(intP 2),(intP 3),(intP 12),(intP 1)])),(.p (.sl 3 [(intP 1),(intP 1),(intP 14),(intP 1),(intP 0),(intP 2),(intP 14),(intP 1),(intP 2),(intP 3),(intP 12),(intP 1)]))] base (.p (blP true)) [])(h25_5:∀ base:Nat,FV Tryz.prog 25 [(.p (.sl 3 [(intP 0),(intP 1),(intP 2)])),(.p (.sl 3 [(intP 0),(intP 1),(intP 2)]))] base (.p (blP true)) [])(h73_6:∀ base:Nat,FV Tryz.prog 73 [(.p (.agg [(intP 2),(intP 4),(intP 4),(.sl 2 [(intP 10),(intP 4)]),(.sl 3 [(.sl 2 [(intP 1),(intP 2)]),(.sl 2 [(intP 1),(intP 2)]),(.sl 2 [(intP 1),(intP 2)])])]))] base (.tup [(.p (intP 3)),(.p (intP 0)),(.p (intP 0))]) [])(h56_7:∀ base:Nat,FV Tryz.prog 56 [(.p (.agg [(intP 3),(intP 3),(intP 2),(.sl 3 [(intP 10),(intP 6),(intP 4)]),(.sl 2 [(.sl 3 [(intP 1),(intP 2),(intP 3)]),(.sl 3 [(intP 3),(intP 1),(intP 1)])])])),(.p (intP 2))] base (.tup [(.p (.sl 3 [(intP 2),(intP 3),(intP 1)])),(.p (intP 0))]) [])(h22_8:∀ base:Nat,FV Tryz.prog 22 [(.p (.agg [(intP 3),(intP 3),(intP 2),(.sl 3 [(intP 10),(intP 6),(intP 4)]),(.sl 2 [(.sl 3 [(intP 1),(intP 2),(intP 3)]),(.sl 3 [(intP 3),(intP 1),(intP 1)])])])),(.p (.sl 3 [(intP 5),(intP 5),(intP 9)])),(.p (intP 1)),(.p (.sl 2 [(intP 4),(intP 3)]))] base (.tup [(.p (.sl 2 [(intP 5),(intP 1),(intP 14),(intP 4),(intP 9),(intP 2),(intP 12),(intP 3)])),(.p (intP 0))]) [])(h87_9:∀ base:Nat,FV Tryz.prog 87 [(.p (.sl 2 [(intP 5),(intP 1),(intP 14),(intP 4),(intP 9),(intP 2),(intP 12),(intP 3)])),(.p (.sl 2 [(intP 5),(intP 1),(intP 14),(intP 4),(intP 9),(intP 2),(intP 12),(intP 3)]))] base (.p (blP true)) []){base:Nat}:FV Tryz.prog 19 [] base (.p (blP true)) []:=by
  exact FV.fin Tryz.func19 rfl (o:=[.c (.p (.agg [(intP 3),(intP 3),(intP 2),(.sl 3 [(intP 10),(intP 6),(intP 4)]),(.sl 2 [(.sl 3 [(intP 1),(intP 2),(intP 3)]),(.sl 3 [(intP 3),(intP 1),(intP 1)])])])) [],.c (.tup [(.p (.sl 3 [(intP 1),(intP 1),(intP 14),(intP 1),(intP 0),(intP 2),(intP 14),(intP 1),(intP 2),(intP 3),(intP 12),(intP 1)])),(.p (intP 0))]) [],.c (.p (.agg [(intP 3),(intP 3),(intP 2),(.sl 3 [(intP 10),(intP 6),(intP 4)]),(.sl 2 [(.sl 3 [(intP 1),(intP 2),(intP 3)]),(.sl 3 [(intP 3),(intP 1),(intP 1)])])])) [],.c (.tup [(.p (.sl 3 [(intP 0),(intP 1),(intP 2)])),(.p (intP 0))]) [],.c (.p (.agg [(intP 3),(intP 3),(intP 2),(.sl 3 [(intP 10),(intP 6),(intP 4)]),(.sl 2 [(.sl 3 [(intP 1),(intP 2),(intP 3)]),(.sl 3 [(intP 3),(intP 1),(intP 1)])])])) [],.c (.tup [(.p (.sl 0 [])),(.p (intP 0))]) [],.c (.p (.agg [(intP 3),(intP 3),(intP 2),(.sl 3 [(intP 10),(intP 6),(intP 4)]),(.sl 2 [(.sl 3 [(intP 1),(intP 2),(intP 3)]),(.sl 3 [(intP 3),(intP 1),(intP 1)])])])) [],.c (.tup [(.p (intP 3)),(.p (.sl 3 [(intP 1),(intP 0),(intP 2)])),(.p (intP 0))]) [],bF,bF,bF,bF,bF,bF,bF,bF,bF,bF,bF,bF,bF,bF,bF,.c (.p (blP true)) [],bF,bF,bF,bF,bF,.c (.p (blP true)) [],bF,bF,bF,bF,bF,bF,bF,bF,bF,bF,.c (.p (.agg [(intP 2),(intP 4),(intP 4),(.sl 2 [(intP 10),(intP 4)]),(.sl 3 [(.sl 2 [(intP 1),(intP 2)]),(.sl 2 [(intP 1),(intP 2)]),(.sl 2 [(intP 1),(intP 2)])])])) [],.c (.tup [(.p (intP 3)),(.p (intP 0)),(.p (intP 0))]) [],.c (.p (.agg [(intP 3),(intP 3),(intP 2),(.sl 3 [(intP 10),(intP 6),(intP 4)]),(.sl 2 [(.sl 3 [(intP 1),(intP 2),(intP 3)]),(.sl 3 [(intP 3),(intP 1),(intP 1)])])])) [],.c (.tup [(.p (.sl 3 [(intP 2),(intP 3),(intP 1)])),(.p (intP 0))]) [],.c (.p (.agg [(intP 3),(intP 3),(intP 2),(.sl 3 [(intP 10),(intP 6),(intP 4)]),(.sl 2 [(.sl 3 [(intP 1),(intP 2),(intP 3)]),(.sl 3 [(intP 3),(intP 1),(intP 1)])])])) [],.c (.tup [(.p (.sl 2 [(intP 5),(intP 1),(intP 14),(intP 4),(intP 9),(intP 2),(intP 12),(intP 3)])),(.p (intP 0))]) [(2,.dead),(3,.dead)],bT,bT,bT,bT,bT,bT,bT,bT,bT,bT,bT,bT,bT,bT,bT,bT,bT,bT,bT,.x (intP 1),bT,bT,bT,bT,bT,bT,bT,.c (.p (blP true)) [],bT]) (l:=[_,FC Tryz.prog 87 [(.p (.sl 2 [(intP 5),(intP 1),(intP 14),(intP 4),(intP 9),(intP 2),(intP 12),(intP 3)])),(.own 4)] [(4,(.row 40 2 [(intP 5),(intP 1),(intP 14),(intP 4),(intP 9),(intP 2),(intP 12),(intP 3)]))] 5 (.p (blP true)) [],_,_,_,_,_,_,_,[(intP 2),(intP 3),(intP 1)][2]? = some (intP 1),_,0≤(2:Int)∧(2:Int)<(3:Int)∧2<[(intP 2),(intP 3),(intP 1)].length,_,_,_,_,_,_,_,_,_,_,_,_,_,_,_,_,_,_,FC Tryz.prog 22 [(.p (.agg [(intP 3),(intP 3),(intP 2),(.sl 3 [(intP 10),(intP 6),(intP 4)]),(.sl 2 [(.sl 3 [(intP 1),(intP 2),(intP 3)]),(.sl 3 [(intP 3),(intP 1),(intP 1)])])])),(.own 2),(.p (intP 1)),(.own 3)] [(2,(.row 3 3 [(intP 5),(intP 5),(intP 9)])),(3,(.row 3 2 [(intP 4),(intP 3)]))] 4 (.tup [(.p (.sl 2 [(intP 5),(intP 1),(intP 14),(intP 4),(intP 9),(intP 2),(intP 12),(intP 3)])),(.p (intP 0))]) [(2,.dead),(3,.dead)],FC Tryz.prog 85 [] [] 2 (.p (.agg [(intP 3),(intP 3),(intP 2),(.sl 3 [(intP 10),(intP 6),(intP 4)]),(.sl 2 [(.sl 3 [(intP 1),(intP 2),(intP 3)]),(.sl 3 [(intP 3),(intP 1),(intP 1)])])])) [],FC Tryz.prog 56 [(.p (.agg [(intP 3),(intP 3),(intP 2),(.sl 3 [(intP 10),(intP 6),(intP 4)]),(.sl 2 [(.sl 3 [(intP 1),(intP 2),(intP 3)]),(.sl 3 [(intP 3),(intP 1),(intP 1)])])])),(.p (intP 2))] [] 2 (.tup [(.p (.sl 3 [(intP 2),(intP 3),(intP 1)])),(.p (intP 0))]) [],FC Tryz.prog 85 [] [] 2 (.p (.agg [(intP 3),(intP 3),(intP 2),(.sl 3 [(intP 10),(intP 6),(intP 4)]),(.sl 2 [(.sl 3 [(intP 1),(intP 2),(intP 3)]),(.sl 3 [(intP 3),(intP 1),(intP 1)])])])) [],FC Tryz.prog 73 [(.p (.agg [(intP 2),(intP 4),(intP 4),(.sl 2 [(intP 10),(intP 4)]),(.sl 3 [(.sl 2 [(intP 1),(intP 2)]),(.sl 2 [(intP 1),(intP 2)]),(.sl 2 [(intP 1),(intP 2)])])]))] [] 2 (.tup [(.p (intP 3)),(.p (intP 0)),(.p (intP 0))]) [],FC Tryz.prog 86 [] [] 2 (.p (.agg [(intP 2),(intP 4),(intP 4),(.sl 2 [(intP 10),(intP 4)]),(.sl 3 [(.sl 2 [(intP 1),(intP 2)]),(.sl 2 [(intP 1),(intP 2)]),(.sl 2 [(intP 1),(intP 2)])])])) [],((3:Int) != (3:Int))=false,_,_,_,false=false,false=false,false=false,false=false,false=false,false=false,FC Tryz.prog 25 [(.p (.sl 3 [(intP 0),(intP 1),(intP 2)])),(.own 1)] [(1,(.row 3 3 [(intP 0),(intP 1),(intP 2)]))] 2 (.p (blP true)) [],false=false,false=false,false=false,_,_,FC Tryz.prog 39 [(.p (.sl 3 [(intP 1),(intP 1),(intP 14),(intP 1),(intP 0),(intP 2),(intP 14),(intP 1),(intP 2),(intP 3),(intP 12),(intP 1)])),(.own 0)] [(0,(.row 61 3 [(intP 1),(intP 1),(intP 14),(intP 1),(intP 0),(intP 2),(intP 14),(intP 1),(intP 2),(intP 3),(intP 12),(intP 1)]))] 1 (.p (blP true)) [],_,_,_,_,_,_,_,_,_,_,_,_,_,_,_,FC Tryz.prog 55 [(.p (.agg [(intP 3),(intP 3),(intP 2),(.sl 3 [(intP 10),(intP 6),(intP 4)]),(.sl 2 [(.sl 3 [(intP 1),(intP 2),(intP 3)]),(.sl 3 [(intP 3),(intP 1),(intP 1)])])])),(.p (intP 1))] [] 0 (.tup [(.p (intP 3)),(.p (.sl 3 [(intP 1),(intP 0),(intP 2)])),(.p (intP 0))]) [],FC Tryz.prog 85 [] [] 0 (.p (.agg [(intP 3),(intP 3),(intP 2),(.sl 3 [(intP 10),(intP 6),(intP 4)]),(.sl 2 [(.sl 3 [(intP 1),(intP 2),(intP 3)]),(.sl 3 [(intP 3),(intP 1),(intP 1)])])])) [],FC Tryz.prog 38 [(.p (.agg [(intP 3),(intP 3),(intP 2),(.sl 3 [(intP 10),(intP 6),(intP 4)]),(.sl 2 [(.sl 3 [(intP 1),(intP 2),(intP 3)]),(.sl 3 [(intP 3),(intP 1),(intP 1)])])]))] [] 0 (.tup [(.p (.sl 0 [])),(.p (intP 0))]) [],FC Tryz.prog 85 [] [] 0 (.p (.agg [(intP 3),(intP 3),(intP 2),(.sl 3 [(intP 10),(intP 6),(intP 4)]),(.sl 2 [(.sl 3 [(intP 1),(intP 2),(intP 3)]),(.sl 3 [(intP 3),(intP 1),(intP 1)])])])) [],FC Tryz.prog 37 [(.p (.agg [(intP 3),(intP 3),(intP 2),(.sl 3 [(intP 10),(intP 6),(intP 4)]),(.sl 2 [(.sl 3 [(intP 1),(intP 2),(intP 3)]),(.sl 3 [(intP 3),(intP 1),(intP 1)])])]))] [] 0 (.tup [(.p (.sl 3 [(intP 0),(intP 1),(intP 2)])),(.p (intP 0))]) [],FC Tryz.prog 85 [] [] 0 (.p (.agg [(intP 3),(intP 3),(intP 2),(.sl 3 [(intP 10),(intP 6),(intP 4)]),(.sl 2 [(.sl 3 [(intP 1),(intP 2),(intP 3)]),(.sl 3 [(intP 3),(intP 1),(intP 1)])])])) [],FC Tryz.prog 34 [(.p (.agg [(intP 3),(intP 3),(intP 2),(.sl 3 [(intP 10),(intP 6),(intP 4)]),(.sl 2 [(.sl 3 [(intP 1),(intP 2),(intP 3)]),(.sl 3 [(intP 3),(intP 1),(intP 1)])])]))] [] 0 (.tup [(.p (.sl 3 [(intP 1),(intP 1),(intP 14),(intP 1),(intP 0),(intP 2),(intP 14),(intP 1),(intP 2),(intP 3),(intP 12),(intP 1)])),(.p (intP 0))]) [],FC Tryz.prog 85 [] [] 0 (.p (.agg [(intP 3),(intP 3),(intP 2),(.sl 3 [(intP 10),(intP 6),(intP 4)]),(.sl 2 [(.sl 3 [(intP 1),(intP 2),(intP 3)]),(.sl 3 [(intP 3),(intP 1),(intP 1)])])])) []]) (by kernel_rfl) (gc zL6q3 (gc (fv (h87_9 _)) (gc zL6q3 (gc zL6q3 (gc zL6q3 (gc zL6q3 (gc zL6q3 (gc zL6q2 (gc zL6q2 (gc rfl (gc zL6q2 (gc (by first | decide | simp) (gc zL6q2 (gc zL6q2 (gc zL6q1 (gc zL6q1 (gc zL6q1 (gc zL6q1 (gc zL6q2 (gc zL6q2 (gc zL6q2 (gc zL6q1 (gc zL6q1 (gc zL6q1 (gc zL6q1 (gc zL6q1 (gc zL6q1 (gc zL6q1 (gc zL6q1 (gc zL6q1 (gc (FV.close (ids:=[2,3]) (args':=[(.p (.agg [(intP 3),(intP 3),(intP 2),(.sl 3 [(intP 10),(intP 6),(intP 4)]),(.sl 2 [(.sl 3 [(intP 1),(intP 2),(intP 3)]),(.sl 3 [(intP 3),(intP 1),(intP 1)])])])),(.p (.sl 3 [(intP 5),(intP 5),(intP 9)])),(.p (intP 1)),(.p (.sl 2 [(intP 4),(intP 3)]))]) (h22_8 _) (by kernel_rfl)) (gc (FV.fc three_p0 (by kernel_rfl)) (gc (FV.fc (h56_7 _) rfl) (gc (FV.fc three_p0 (by kernel_rfl)) (gc (FV.fc (h73_6 _) rfl) (gc (FV.fc two_p0 (by kernel_rfl)) (gc (by first | decide | simp) (gc zL6q0 (gc zL6q0 (gc zL6q0 (gc rfl (gc rfl (gc rfl (gc rfl (gc rfl (gc rfl (gc (fv (h25_5 _)) (gc rfl (gc rfl (gc rfl (gc zL6q0 (gc zL6q0 (gc (fv (h39_4 _)) (gc zL6q0 (gc zL6q0 (gc zL6q0 (gc zL6q0 (gc zL6q0 (gc zL6q0 (gc zL6q0 (gc zL6q0 (gc zL6q0 (gc zL6q0 (gc zL6q0 (gc zL6q0 (gc zL6q0 (gc zL6q0 (gc zL6q0 (gc (FV.fc (h55_3 _) rfl) (gc (FV.fc three_p0 (by kernel_rfl)) (gc (FV.fc (h38_2 _) rfl) (gc (FV.fc three_p0 (by kernel_rfl)) (gc (FV.fc (h37_1 _) rfl) (gc (FV.fc three_p0 (by kernel_rfl)) (gc (FV.fc (h34_0 _) rfl) (gc (FV.fc three_p0 (by kernel_rfl)) gn))))))))))))))))))))))))))))))))))))))))))))))))))))))))))))))))))))))))))))
end
end KV
end Go.Proofs
section
namespace Go.Proofs
namespace KL
def insI(x:Int):List Int→List Int
  | []=>[x]
  | y::r=>if x≤y then x::y::r else y::insI x r
def sortI:List Int→List Int
  | []=>[]
  | x::r=>insI x (sortI r)
theorem insI_perm(x:Int):∀ l,(insI x l).Perm (x::l)
  | [] => .refl _
  | y::r=>by
    unfold insI
    split
    · exact .refl _
    · exact ((insI_perm x r).cons y).trans (List.Perm.swap x y r)
theorem sortI_perm:∀ l,(sortI l).Perm l
  | [] => .refl _
  | x::r=>(insI_perm x _).trans ((sortI_perm r).cons x)
theorem insI_sorted(x:Int):∀ l,l.Pairwise (· ≤ ·)→(insI x l).Pairwise (· ≤ ·)
  | [],_=>by simp [insI]
  | y::r,h=>by
    obtain ⟨h1,h2⟩:=List.pairwise_cons.1 h
    unfold insI
    split
    · rename_i hx
      exact List.pairwise_cons.2 ⟨fun z hz=>by
        rcases List.mem_cons.1 hz with rfl | hz
        · exact hx
        · have:=h1 z hz;omega,h⟩
    · rename_i hx
      refine List.pairwise_cons.2 ⟨fun z hz => ?_,insI_sorted x r h2⟩
      rcases List.mem_cons.1 ((insI_perm x r).mem_iff.1 hz) with rfl | hz
      · omega
      · exact h1 z hz
theorem sortI_sorted:∀ l,(sortI l).Pairwise (· ≤ ·)
  | [] => .nil
  | x::r=>insI_sorted x _ (sortI_sorted r)
theorem sorted_eq:∀ (a b:List Int),a.Perm b→a.Pairwise (· ≤ ·)→b.Pairwise (· ≤ ·)→a=b
  | [],b,h,_,_=>(List.nil_perm.1 h).symm
  | x::r,[],h,_,_=>absurd h.length_eq (by simp)
  | x::r,y::t,h,ha,hb=>by
    obtain ⟨h1,h2⟩:=List.pairwise_cons.1 ha
    obtain ⟨h3,h4⟩:=List.pairwise_cons.1 hb
    have e:x=y:=by
      have m1:x∈y::t:=h.mem_iff.1 (List.mem_cons_self ..)
      have m2:y∈x::r:=h.mem_iff.2 (List.mem_cons_self ..)
      rcases List.mem_cons.1 m1 with e | m1
      · exact e
      · rcases List.mem_cons.1 m2 with e | m2
        · exact e.symm
        · have:=h1 y m2;have:=h3 x m1;omega
    subst e
    rw [sorted_eq r t (List.Perm.cons_inv h) h2 h4]
theorem mergeSort_eq(l:List Int):l.mergeSort leB=sortI l:=by
  refine sorted_eq _ _ ((List.mergeSort_perm _ _).trans (sortI_perm l).symm) ?_ (sortI_sorted l)
  have:=List.pairwise_mergeSort leB_trans leB_total l
  exact this.imp (fun h=>by simpa [leB] using h)
end KL
namespace KV
open KL
theorem h39(base:Nat):FV Tryz.prog 39 [(.p (.sl 3 [(intP 1),(intP 1),(intP 14),(intP 1),(intP 0),(intP 2),(intP 14),(intP 1),(intP 2),(intP 3),(intP 12),(intP 1)])),(.p (.sl 3 [(intP 1),(intP 1),(intP 14),(intP 1),(intP 0),(intP 2),(intP 14),(intP 1),(intP 2),(intP 3),(intP 12),(intP 1)]))] base (.p (blP true)) [] :=
  eql_ok [[1,1,14,1],[0,2,14,1],[2,3,12,1]] [[1,1,14,1],[0,2,14,1],[2,3,12,1]] (by decide) (by unfold uni;decide) (by unfold uni;decide)
theorem h25(base:Nat):FV Tryz.prog 25 [(.p (.sl 3 [(intP 0),(intP 1),(intP 2)])),(.p (.sl 3 [(intP 0),(intP 1),(intP 2)]))] base (.p (blP true)) []:=eqi_ok [0,1,2] [0,1,2] (by decide)
theorem h87(base:Nat):FV Tryz.prog 87 [(.p (.sl 2 [(intP 5),(intP 1),(intP 14),(intP 4),(intP 9),(intP 2),(intP 12),(intP 3)])),(.p (.sl 2 [(intP 5),(intP 1),(intP 14),(intP 4),(intP 9),(intP 2),(intP 12),(intP 3)]))] base (.p (blP true)) [] :=
  eqn_ok [[5,1,14,4],[9,2,12,3]] [[5,1,14,4],[9,2,12,3]] (by decide) (by unfold uni;decide) (by unfold uni;decide)
theorem countedL_eq(c:Cup)(s:Nat):countedL c s=KL.sortI ((KL.isort (KL.ltC (KL.cntCmp c s)) (KL.idx c.done.length)).take (min c.done.length c.be.toNat)):=by
  unfold countedL
  exact KL.mergeSort_eq _
def totK(c:Cup)(s:Nat):Int:=((KL.sortI ((KL.isort (KL.ltC (KL.cntCmp c s)) (KL.idx c.done.length)).take (min c.done.length c.be.toNat))).map fun i=>scoreAt c i.toNat s).sum
theorem totalM_eq(c:Cup)(s:Nat):totalM c s=totK c s:=by
  unfold totalM totK
  rw [countedL_eq]
def betK(c:Cup)(a b:Nat):Bool:=KL.betterF (totK c a) (totK c b) (placesM c a) (placesM c b)
theorem betS_eq(c:Cup)(a b:Nat):betS c a b=betK c a b:=by
  unfold betS betK
  rw [totalM_eq,totalM_eq]
def rankK(c:Cup)(s:Nat):Int:=1+((KL.oth s c.sk.toNat).countP (fun x=>betK c x s):Nat)
theorem rankM_eq(c:Cup)(s:Nat):rankM c s=rankK c s:=by
  unfold rankM rankK
  simp only [betS_eq]
def canK(c:Cup)(s:Nat):Bool:=rankK (withC c (wonM c s)) s == 1
theorem canM_eq(c:Cup):canM c=canK c:=by
  funext s
  unfold canM canK
  rw [rankM_eq]
set_option maxRecDepth 100000 in
theorem v37:whoM (canM threeC) 3=[0,1,2]:=by
  rw [canM_eq]
  kernel_rfl
theorem clash_no{race:List Int}(h0:∀ x∈race,0≤x)(h:KL.NoClash race):KL.clashR race=false:=(KL.clash_iff race h0).2 h
theorem valid_three:KL.Valid threeC where
  sk1:=by decide
  sk2:=by decide
  ra1:=by decide
  ra2:=by decide
  be1:=by decide
  be2:=by decide
  pt1:=by decide
  pt2:=by decide
  dn:=by decide
  len:=by decide
  pts:=by decide
  rows:=by decide
  falls:=by kernel_rfl
  clash:=by
    show (KL.clashR [1,2,3] || (KL.clashR [3,1,1] || false))=false
    rw [clash_no (by decide) (by unfold KL.NoClash;decide),clash_no (by decide) (by unfold KL.NoClash;decide)]
    rfl
theorem valid_two:KL.Valid twoC where
  sk1:=by decide
  sk2:=by decide
  ra1:=by decide
  ra2:=by decide
  be1:=by decide
  be2:=by decide
  pt1:=by decide
  pt2:=by decide
  dn:=by decide
  len:=by decide
  pts:=by decide
  rows:=by decide
  falls:=by kernel_rfl
  clash:=by
    show (KL.clashR [1,2] || (KL.clashR [1,2] || (KL.clashR [1,2] || false)))=false
    rw [clash_no (by decide) (by unfold KL.NoClash;decide)]
    rfl
theorem h37(base:Nat):FV Tryz.prog 37 [.p (cupP threeC)] base (.tup [.p (intsP [0,1,2]),.p (intP 0)]) []:=by
  have:=canE_ok threeC valid_three (base:=base)
  rwa [show whoM (canM threeC) threeC.sk.toNat=[0,1,2] from v37] at this
theorem v34:tableM threeC=[[1,1,14,1],[0,2,14,1],[2,3,12,1]]:=by
  unfold tableM tabL
  simp only [rankM_eq,totalM_eq]
  kernel_rfl
theorem h34(base:Nat):FV Tryz.prog 34 [.p (cupP threeC)] base (.tup [.p (.sl 3 ([[1,1,14,1],[0,2,14,1],[2,3,12,1]].flatten.map intP)),.p (intP 0)]) []:=by
  have:=table_ok threeC valid_three (base:=base)
  rwa [v34] at this
theorem lastE_three(k:Int)(h:0≤k∧k<3):lastE threeC k=0:=by
  unfold lastE
  rw [named_in valid_three h.1 h.2]
  rfl
def beatK(c:Cup)(o:Nat)(p:Int)(s:Nat)(w:Int):Bool:=betK (withC c [KL.race2 c.sk.toNat o p s w]) o s
theorem beatsM_fun:beatsM=beatK:=by funext c o p s w;unfold beatsM beatK;rw [betS_eq]
def findK(c:Cup)(s:Nat)(pl:Int)(free:List Int):Int:=(KL.oth s c.sk.toNat).foldl (fun fo x=>if fo<0 then (if free.getD x 0=0 then (if beatK c x pl s 1 then fo else (x:Int)) else fo) else fo) (-1)
theorem findM_eq(c:Cup)(s:Nat)(pl:Int)(free:List Int):findM c s pl free=findK c s pl free:=by
  have:findF c s pl free=fun fo x=>if fo<0 then (if free.getD x 0=0 then (if beatK c x pl s 1 then fo else (x:Int)) else fo) else fo:=by
    funext fo x
    unfold findF
    rw [beatsM_fun]
  unfold findM findK
  rw [this]
def fullRK(c:Cup)(s:Nat):Nat→Int→List Int→Option (List Int)
  | 0,_,free=>some free
  | n+1,pl,free=>if findK c s pl free<0 then none else fullRK c s n (pl+1) (free.set (findK c s pl free).toNat pl)
theorem fullR_eq(c:Cup)(s:Nat):∀ n pl free,fullR c s n pl free=fullRK c s n pl free
  | 0,_,_=>rfl
  | n+1,pl,free=>by
    unfold fullR fullRK
    rw [findM_eq,fullR_eq c s n]
theorem v56:fullM threeC 2=some [2,3,1]:=by
  unfold fullM
  rw [fullR_eq]
  kernel_rfl
theorem h56(base:Nat):FV Tryz.prog 56 [.p (cupP threeC),.p (intP 2)] base (.tup [.p (intsP [2,3,1]),.p (intP 0)]) []:=by
  have:=full_ok threeC 2 (lastE_three 2 (by omega)) (base:=base)
  rw [v56] at this
  exact this
def passK(c:Cup)(skier s:Nat):Bool:=decide (s≠skier) && decide (1<rankK (withC c (wonM c s)) skier)
theorem passes_eq(c:Cup)(skier s:Nat):KL.passes c skier s=passK c skier s:=by
  unfold KL.passes passK
  rw [rankM_eq]
def agK(c:Cup)(skier:Nat):Nat→Nat→Option Nat
  | 0,_=>none
  | f+1,k=>if passK c skier k then some k else agK c skier f (k+1)
theorem ag_eq(c:Cup)(skier:Nat):∀ f k,KL.againstAt c skier f k=agK c skier f k
  | 0,_=>rfl
  | f+1,k=>by
    unfold KL.againstAt agK
    rw [passes_eq,ag_eq c skier f]
def sureK(c:Cup)(s:Nat):Bool := !(agK c s c.sk.toNat 0).isSome
theorem sureM_eq(c:Cup):sureM c=sureK c:=by
  funext s
  unfold sureM sureK KL.againstM
  rw [ag_eq]
theorem v38:whoM (sureM threeC) 3=[]:=by
  rw [sureM_eq]
  kernel_rfl
theorem h38(base:Nat):FV Tryz.prog 38 [.p (cupP threeC)] base (.tup [.p (intsP []),.p (intP 0)]) []:=by
  have:=sureE_ok threeC valid_three (base:=base)
  rwa [show whoM (sureM threeC) threeC.sk.toNat=[] from v38] at this
def decPK(c:Cup)(n:Nat):Bool:=decide (0<(whoM (sureK (earlyC c n)) c.sk.toNat).length) && decide ((whoM (canK (earlyC c n)) c.sk.toNat).length=1)
theorem decP_eq(c:Cup):decP c=decPK c:=by
  funext n
  unfold decP decPK
  rw [sureM_eq,canM_eq]
theorem v73:decM twoC=(3,0,0):=by
  unfold decM
  rw [decP_eq]
  simp only [sureM_eq]
  kernel_rfl
theorem h73(base:Nat):FV Tryz.prog 73 [.p (cupP twoC)] base (.tup [.p (intP 3),.p (intP 0),.p (intP 0)]) []:=by
  have:=dec_ok twoC valid_two (base:=base)
  rwa [v73] at this
def rivPK(c:Cup)(s i:Nat):Int:=if beatK c i 0 s 0 then 61 else upto (fun p=>beatK c i p s 0) 60 0
theorem rivPl_eq(c:Cup)(s i:Nat):rivPl c s i=rivPK c s i:=by
  unfold rivPl rivPK
  rw [beatsM_fun]
theorem v55:worstM threeC 1=(3,3,[1,0,2]):=by
  have e:rivG threeC 1=fun i=>if i=1 then [] else if 0<rivPK threeC 1 i then [[(i:Int),rivPK threeC 1 i]] else []:=by
    funext i
    unfold rivG
    rw [rivPl_eq]
  have h:((KL.isort (ltK 1) ((List.range threeC.sk.toNat).flatMap fun i=>if i=1 then [] else if 0<rivPK threeC 1 i then [[(i:Int),rivPK threeC 1 i]] else [])).foldl wStep (1,1,List.replicate threeC.sk.toNat 0):Int × Int × List Int)=(3,3,[1,0,2]):=by kernel_rfl
  unfold worstM rivM rivL
  rw [e]
  exact h
theorem h55(base:Nat):FV Tryz.prog 55 [.p (cupP threeC),.p (intP 1)] base (.tup [.p (intP 3),.p (intsP [1,0,2]),.p (intP 0)]) []:=by
  have:=worst_ok threeC 1 (lastE_three 1 (by omega)) (base:=base)
  rw [v55] at this
  exact this
theorem awake_told(h22:∀ base:Nat,FV Tryz.prog 22 [.p (cupP threeC),.p (intsP [5,5,9]),.p (intP 1),.p (intsP [4,3])] base (.tup [.p (.sl 2 ([[5,1,14,4],[9,2,12,3]].flatten.map intP)),.p (intP 0)]) [])(base:Nat):FV Tryz.prog 19 [] base (.p (blP true)) [] :=
  awake_p0 h34 h37 h38 h55 h39 h25 h73 h56 h22 h87
end KV
end Go.Proofs
end
section
namespace Go.Proofs
open KL Go.RowKit
namespace KV

theorem totalM_bd{c:KL.Cup}(hV:KL.Valid c)(s:Nat):0≤KL.totalM c s∧KL.totalM c s≤20000:=by
  unfold KL.totalM
  have hl:((KL.countedL c s).map fun i=>KL.scoreAt c i.toNat s).length≤20:=by
    rw [List.length_map,countedL_eq]
    have h1:∀ l,(KL.sortI l).length=l.length:=fun l=>by rw [← KL.mergeSort_eq];exact List.length_mergeSort l
    rw [h1,List.length_take]
    have:=hV.be2
    have:=hV.ra2
    omega
  have hb:∀ x∈((KL.countedL c s).map fun i=>KL.scoreAt c i.toNat s),0≤x∧x≤1000:=fun x hx=>by
    obtain ⟨i,_,rfl⟩:=List.mem_map.1 hx
    exact KL.scoreM_bd _ _ _ hV.pts
  have key:∀ l:List Int,(∀ x∈l,0≤x∧x≤1000)→0≤l.sum∧l.sum≤1000*l.length:=fun l h=>by
    induction l with
    | nil=>simp
    | cons x r ih =>
      have h1:=h x (List.mem_cons_self ..)
      have h2:=ih fun y hy=>h y (List.mem_cons_of_mem _ hy)
      rw [List.sum_cons,List.length_cons]
      omega
  have:=key _ hb
  omega
theorem totalsM_len(c:KL.Cup):(KL.totalsM c).length=c.sk.toNat:=KL.totalsUp_length _ _
theorem totalsM_mem{c:KL.Cup}(hV:KL.Valid c):∀ x∈KL.totalsM c,0≤x∧x≤20000:=fun x hx=>by
  unfold KL.totalsM KL.totalsUp at hx
  obtain ⟨s,_,rfl⟩:=List.mem_map.1 hx
  exact totalM_bd hV s
theorem all_within{l:List Int}{a b:Int}(h:(l.all fun x=>within x a b)=true):∀ x∈l,a≤x∧x≤b:=fun x hx=>by
  have:=List.all_eq_true.1 h x hx
  exact within_iff.1 this
theorem nat_ok(c:KL.Cup)(ns:List Int)(mo:Int)(qs:List Int)(hS:KL.Small c)(hE:natE c ns mo qs=0){base:Nat}:FV Tryz.prog 22 [.p (cupP c),.p (intsP ns),.p (intP mo),.p (intsP qs)] base
    (.tup [.p (.sl (nationsM c ns mo qs).length ((nationsM c ns mo qs).flatten.map intP)),.p (intP 0)]) []:=by
  unfold natE at hE
  split at hE
  · exact absurd hE ‹_›
  rename_i h1
  split at hE
  · omega
  rename_i h2
  split at hE
  · omega
  rename_i h3
  split at hE
  · omega
  rename_i h4
  have h1:KL.checkP c=0:=Decidable.byContradiction h1
  have hV:=(KL.valid_iff c).1 h1
  have a1:(ns.length:Int)=c.sk:=Decidable.byContradiction fun h=>h2 (.inl h)
  have a2:within (qs.length:Int) 1 31=true:=by
    cases h:within (qs.length:Int) 1 31
    · exact absurd (.inr h) h2
    · rfl
  have a3:(ns.all fun x=>within x 0 30)=true:=by
    cases h:(ns.all fun x=>within x 0 30)
    · exact absurd (.inl h) h3
    · rfl
  have a4:within mo 1 12=true:=by
    cases h:within mo 1 12
    · exact absurd (.inr (.inl h)) h3
    · rfl
  have a5:(qs.all fun x=>within x 0 20)=true:=by
    cases h:(qs.all fun x=>within x 0 20)
    · exact absurd (.inr (.inr h)) h3
    · rfl
  have a6:KL.fallsB qs=true:=by
    cases h:KL.fallsB qs
    · exact absurd h h4
    · rfl
  have b2:=within_iff.1 a2
  have s2:=hV.sk2
  exact nat_p7 hS h1 a1 a2 (by unfold small;omega) a3 a4 (by unfold small;omega) a5 (by omega) a6 (nat_main hV a1 (all_within a3) (within_iff.1 a4) (by omega) (totalsM_len c) (fun x hx=>by have:=totalsM_mem hV x hx;omega))
theorem totals_three:KL.totalsM threeC=[14,14,12]:=by
  have e:KL.totalsM threeC=(List.range 3).map (totK threeC):=by
    unfold KL.totalsM KL.totalsUp
    exact List.map_congr_left fun s _=>totalM_eq threeC s
  have h:(List.range 3).map (totK threeC)=[14,14,12]:=by kernel_rfl
  exact e.trans h
theorem v22:nationsM threeC [5,5,9] 1 [4,3]=[[5,1,14,4],[9,2,12,3]]:=by
  unfold nationsM
  have h:natL [4,3] (outL [5,5,9] [14,14,12] 1 ([14,14,12]:List Int).length 31)=[[5,1,14,4],[9,2,12,3]]:=by kernel_rfl
  rw [totals_three]
  exact h
theorem h22(base:Nat):FV Tryz.prog 22 [.p (cupP threeC),.p (intsP [5,5,9]),.p (intP 1),.p (intsP [4,3])] base (.tup [.p (.sl 2 ([[5,1,14,4],[9,2,12,3]].flatten.map intP)),.p (intP 0)]) []:=by
  have hE:natE threeC [5,5,9] 1 [4,3]=0:=by
    unfold natE
    have h:(if (([5,5,9]:List Int).length:Int)≠threeC.sk∨within (([4,3]:List Int).length:Int) 1 31=false then (2:Int) else if (([5,5,9]:List Int).all fun x=>within x 0 30)=false∨within 1 1 12=false∨(([4,3]:List Int).all fun x=>within x 0 20)=false then 3 else if KL.fallsB [4,3]=false then 4 else 0)=0:=by kernel_rfl
    rw [(KL.valid_iff threeC).2 valid_three,if_neg (by simp)]
    exact h
  have:=nat_ok threeC [5,5,9] 1 [4,3] valid_three.small hE (base:=base)
  rw [v22] at this
  exact this
theorem awake_ok(base:Nat):FV Tryz.prog 19 [] base (.p (blP true)) []:=awake_told h22 base
end KV
end Go.Proofs
end
section
namespace Go.Proofs
namespace KL
section
variable {α:Type}
theorem ins_split(lt:α→α→Bool)(A:List α)(x:α):∃ B D:List α,A=B++D∧ins lt A x=B++x::D∧(∀ d∈D,lt x d=true)∧(B=[]∨∃ B' h,B=B'++[h]∧lt x h=false):=by
  have hA:A=(A.reverse.dropWhile (lt x)).reverse++(A.reverse.takeWhile (lt x)).reverse:=by
    rw [← List.reverse_append,List.takeWhile_append_dropWhile,List.reverse_reverse]
  generalize hdw:A.reverse.dropWhile (lt x)=dw at hA
  generalize htw:A.reverse.takeWhile (lt x)=tw at hA
  have hp:insPos lt x A=dw.reverse.length:=by unfold insPos;rw [hdw,List.length_reverse]
  refine ⟨dw.reverse,tw.reverse,hA,?_,fun d hd => ?_,?_⟩
  · unfold ins
    rw [hp]
    conv=>lhs;rw [hA]
    rw [List.take_left',List.drop_left'] <;> rfl
  · rw [List.mem_reverse,← htw] at hd
    exact List.all_eq_true.1 List.all_takeWhile d hd
  · cases dw with
    | nil=>exact .inl rfl
    | cons h r =>
      refine .inr ⟨r.reverse,h,by simp,?_⟩
      have:=List.head_dropWhile_not (lt x) (l:=A.reverse) (by rw [hdw];simp)
      simp only [hdw,List.head_cons] at this
      simpa using this
theorem ins_perm(lt:α→α→Bool)(A:List α)(x:α):(ins lt A x).Perm (x::A):=by
  obtain ⟨B,D,h1,h2,_⟩:=ins_split lt A x
  rw [h2,h1]
  exact List.perm_middle
theorem isort_perm(lt:α→α→Bool)(l:List α):(isort lt l).Perm l:=by
  unfold isort
  have:∀ (l A:List α),(l.foldl (ins lt) A).Perm (A++l):=by
    intro l
    induction l with
    | nil=>intro A;simp
    | cons x r ih =>
      intro A
      rw [List.foldl_cons]
      refine (ih _).trans (((ins_perm lt A x).append_right r).trans ?_)
      exact List.perm_middle.symm
  simpa using this l []
end
end KL
end Go.Proofs
end
namespace Go.Proofs
namespace KV
section
open KL
def ofM(L:List (List Int))(n:Int):List Int:=(L.find? fun x=>x.getD 0 0 == n).getD [0,-1,0,0]
end
end KV
end Go.Proofs
section
namespace Go.Proofs
open KL Go.RowKit
namespace KV

theorem cmp_dec(a b:Int):decide (KL.cmpI a b<0)=decide (a<b):=by
  unfold KL.cmpI
  split
  · rename_i h;simp [h]
  · rename_i h
    split
    · rename_i h2;simp;omega
    · simp;omega
section
variable {ns ts:List Int} {mo:Int} {qs:List Int} {N:Nat}
end

end KV
end Go.Proofs
end
namespace Go.Proofs
namespace KV
section
open KL
end
end KV
end Go.Proofs
section
namespace Go.Proofs
open KL Go.RowKit
namespace KL
section
variable {α:Type}
theorem ins_stable{f g:α→Int}{lt:α→α→Bool}(hlt:∀ x y,lt x y=decide (f x<f y)){A:List α}(x:α)(hs:A.Pairwise (fun a b=>f a<f b∨f a=f b∧g a<g b))(hg:∀ a∈A,g a<g x):(ins lt A x).Pairwise (fun a b=>f a<f b∨f a=f b∧g a<g b):=by
  obtain ⟨B,D,rfl,h2,h3,h4⟩:=ins_split lt A x
  rw [h2]
  obtain ⟨s1,s2,s3⟩:=List.pairwise_append.1 hs
  have hB:∀ b∈B,f b≤f x:=fun b hb=>by
    rcases h4 with rfl | ⟨B',h,rfl,hx⟩
    · simp at hb
    · rw [hlt,decide_eq_false_iff_not] at hx
      rcases List.mem_append.1 hb with hb | hb
      · have:=(List.pairwise_append.1 s1).2.2 b hb h (by simp)
        omega
      · simp at hb;subst hb;omega
  have hD:∀ d∈D,f x<f d:=fun d hd=>by
    have:=h3 d hd
    rwa [hlt,decide_eq_true_eq] at this
  refine List.pairwise_append.2 ⟨s1,List.pairwise_cons.2 ⟨fun d hd => .inl (hD d hd),s2⟩,fun a ha b hb => ?_⟩
  rcases List.mem_cons.1 hb with rfl | hb
  · have h5:=hB a ha
    have h6:=hg a (List.mem_append_left _ ha)
    by_cases e:f a=f b
    · exact .inr ⟨e,h6⟩
    · exact .inl (by omega)
  · exact s3 a ha b hb
theorem isort_stable{f g:α→Int}{lt:α→α→Bool}(hlt:∀ x y,lt x y=decide (f x<f y))(l:List α)(hl:l.Pairwise (fun a b=>g a<g b)):(isort lt l).Pairwise (fun a b=>f a<f b∨f a=f b∧g a<g b):=by
  unfold isort
  have:∀ (l A:List α),l.Pairwise (fun a b=>g a<g b)→(∀ a∈A,∀ x∈l,g a<g x)→A.Pairwise (fun a b=>f a<f b∨f a=f b∧g a<g b)→(l.foldl (ins lt) A).Pairwise (fun a b=>f a<f b∨f a=f b∧g a<g b):=by
    intro l
    induction l with
    | nil=>intro A _ _ h;exact h
    | cons x r ih =>
      intro A hl hA h
      obtain ⟨h1,h2⟩:=List.pairwise_cons.1 hl
      rw [List.foldl_cons]
      refine ih _ h2 (fun a ha y hy => ?_) (ins_stable hlt x h (fun a ha=>hA a ha x (List.mem_cons_self ..)))
      rcases List.mem_cons.1 ((ins_perm lt A x).mem_iff.1 ha) with rfl | ha
      · exact h1 y hy
      · exact hA a ha y (List.mem_cons_of_mem _ hy)
  exact this l [] hl (fun a ha=>by simp at ha) .nil
end
end KL
namespace KV

theorem totals_at{c:Cup}{j:Nat}(h:(j:Int)<c.sk):(totalsM c)[j]? = some (totalM c j):=by
  unfold totalsM KL.totalsUp
  rw [List.getElem?_map,List.getElem?_range (by omega)];rfl

end KV
end Go.Proofs
end
namespace Go.Proofs
namespace KV
section
open KL
def mostM(c:Cup)(n:Nat):List Int:=(List.range n).map fun s=>totalM (withC c (wonM c s)) s
end
end KV
end Go.Proofs
section
namespace Go.Proofs
namespace KL
end KL
end Go.Proofs
end
section
namespace Go.Proofs
open KL Go.RowKit
namespace KV

def pos(x:Int):Int:=if 0≤x then x else 0
end KV
end Go.Proofs
end
section
namespace Go.Proofs
open KL Go.RowKit
namespace KV

def lexGt(p q:List Int):Prop:=∃ k,1≤k∧k≤60∧q.getD k 0<p.getD k 0∧∀ j,1≤j→j<k→p.getD j 0=q.getD j 0
def lexGe(p q:List Int):Prop:=(∀ j,1≤j→j≤60→p.getD j 0=q.getD j 0)∨lexGt p q
theorem lexFrom_iff(p q:List Int):∀ f i:Nat,KL.lexFrom p q f i=true↔∃ k,i≤k∧k<i+f∧q.getD k 0<p.getD k 0∧∀ j,i≤j→j<k→p.getD j 0=q.getD j 0
  | 0,i=>by
    unfold KL.lexFrom
    constructor
    · intro h;cases h
    · rintro ⟨k,h1,h2,_⟩;omega
  | f+1,i=>by
    unfold KL.lexFrom
    by_cases e:p.getD i 0=q.getD i 0
    · rw [if_pos e,lexFrom_iff p q f (i+1)]
      constructor
      · rintro ⟨k,h1,h2,h3,h4⟩
        refine ⟨k,by omega,by omega,h3,fun j hj hk => ?_⟩
        by_cases ej:j=i
        · rw [ej];exact e
        · exact h4 j (by omega) hk
      · rintro ⟨k,h1,h2,h3,h4⟩
        have:k≠i:=fun ek=>by rw [ek] at h3;omega
        exact ⟨k,by omega,by omega,h3,fun j hj hk=>h4 j (by omega) hk⟩
    · rw [if_neg e]
      constructor
      · intro h
        exact ⟨i,Nat.le_refl _,by omega,of_decide_eq_true h,fun j hj hk=>by omega⟩
      · rintro ⟨k,h1,h2,h3,h4⟩
        by_cases ek:k=i
        · rw [ek] at h3;exact decide_eq_true h3
        · exact absurd (h4 i (Nat.le_refl _) (by omega)) e
theorem lexGt_iff{p q:List Int}:KL.lexFrom p q 60 1=true↔lexGt p q:=by
  rw [lexFrom_iff]
  constructor
  · rintro ⟨k,h1,h2,h3,h4⟩;exact ⟨k,h1,by omega,h3,h4⟩
  · rintro ⟨k,h1,h2,h3,h4⟩;exact ⟨k,h1,by omega,h3,h4⟩
theorem lexGe_gt{p q r:List Int}(h:lexGe p q)(g:lexGt q r):lexGt p r:=by
  obtain ⟨k,k1,k2,k3,k4⟩:=g
  rcases h with h | ⟨i,i1,i2,i3,i4⟩
  · exact ⟨k,k1,k2,by rw [h k k1 k2];exact k3,fun j h1 h2=>by rw [h j h1 (by omega)];exact k4 j h1 h2⟩
  · rcases Nat.lt_trichotomy i k with e | e | e
    · exact ⟨i,i1,i2,by rw [← k4 i i1 e];exact i3,fun j h1 h2=>by rw [i4 j h1 h2];exact k4 j h1 (by omega)⟩
    · subst e
      exact ⟨i,i1,i2,by omega,fun j h1 h2=>by rw [i4 j h1 h2];exact k4 j h1 h2⟩
    · exact ⟨k,k1,k2,by rw [i4 k k1 e];exact k3,fun j h1 h2=>by rw [i4 j h1 (by omega)];exact k4 j h1 h2⟩
theorem betS_iff{c:Cup}{a b:Nat}:betS c a b=true↔totalM c b<totalM c a∨totalM c a=totalM c b∧lexGt (placesM c a) (placesM c b):=by
  unfold betS KL.betterF
  split
  · rename_i e
    rw [lexGt_iff]
    constructor
    · intro h;exact .inr ⟨e,h⟩
    · rintro (h | h)
      · omega
      · exact h.2
  · rename_i e
    rw [decide_eq_true_iff]
    constructor
    · intro h;exact .inl h
    · rintro (h | h)
      · exact h
      · exact absurd h.1 e
section
variable {c:Cup} {F:List (List Int)} {x:Nat}
end
end KV
end Go.Proofs
end
section
namespace Go.Proofs
open KL Go.RowKit
namespace KV

theorem srt_ext{α:Type}{r:α→α→Prop}(has:∀ a b,r a b→¬ r b a):∀ {a b:List α},a.Pairwise r→b.Pairwise r→(∀ x,x∈a↔x∈b)→a=b
  | [],[],_,_,_=>rfl
  | [],y::b,_,_,h=>by have:=(h y).2 (by simp);simp at this
  | x::a,[],_,_,h=>by have:=(h x).1 (by simp);simp at this
  | x::a,y::b,ha,hb,h=>by
    obtain ⟨a1,a2⟩:=List.pairwise_cons.1 ha
    obtain ⟨b1,b2⟩:=List.pairwise_cons.1 hb
    have e:x=y:=by
      rcases List.mem_cons.1 ((h x).1 (by simp)) with e | h1
      · exact e
      · rcases List.mem_cons.1 ((h y).2 (by simp)) with e | h2
        · exact e.symm
        · exact absurd (b1 x h1) (has _ _ (a1 y h2))
    subst e
    rw [srt_ext has a2 b2 fun z => ?_]
    constructor
    · intro hz
      rcases List.mem_cons.1 ((h z).1 (List.mem_cons_of_mem _ hz)) with e | h1
      · subst e;exact absurd (a1 z hz) (has _ _ (a1 z hz))
      · exact h1
    · intro hz
      rcases List.mem_cons.1 ((h z).2 (List.mem_cons_of_mem _ hz)) with e | h1
      · subst e;exact absurd (b1 z hz) (has _ _ (b1 z hz))
      · exact h1

theorem betS_self(c:Cup)(s:Nat):betS c s s=false:=by
  unfold betS KL.betterF
  rw [if_pos rfl]
  exact KL.lexFrom_same _ _ _
def bttrUp(c:Cup)(s n:Nat):Int:=1+((List.range n).countP (fun x=>betS c x s):Nat)
theorem rank_ref(c:Cup)(s:Nat):rankM c s=bttrUp c s c.sk.toNat:=by
  unfold rankM bttrUp KL.oth
  rw [List.countP_filter]
  congr 2
  refine List.countP_congr fun x hx => ?_
  by_cases e:x=s
  · subst e;simp [betS_self]
  · simp [e]
theorem rank_bd(c:Cup)(s:Nat)(hs:(s:Int)<c.sk):1≤rankM c s∧rankM c s≤c.sk:=by
  rw [rank_ref]
  unfold bttrUp
  have h1:=List.countP_le_length (p:=fun x=>betS c x s) (l:=List.range c.sk.toNat)
  rw [List.length_range] at h1
  rcases Nat.lt_or_ge ((List.range c.sk.toNat).countP fun x=>betS c x s) c.sk.toNat with h2 | h2
  · omega
  · have h3:(List.range c.sk.toNat).countP (fun x=>betS c x s)=(List.range c.sk.toNat).length:=by rw [List.length_range];omega
    have:=List.countP_eq_length.1 h3 s (List.mem_range.2 (by omega))
    rw [betS_self] at this
    cases this

def rowT(c:Cup)(s:Nat):List Int:=[(s:Int),rankM c s,totalM c s,(placesM c s).getD 1 0]
def rkL(c:Cup)(r n:Nat):List (List Int):=((List.range n).filter fun s=>decide (rankM c s=(r:Int)+1)).map (rowT c)
def tabR(c:Cup)(n:Nat):List (List Int):=(List.range n).flatMap fun r=>rkL c r c.sk.toNat
abbrev ordT(a b:List Int):Prop:=a.getD 1 0<b.getD 1 0∨a.getD 1 0=b.getD 1 0∧a.getD 0 0<b.getD 0 0
theorem table_ref(c:Cup):tableM c=tabR c c.sk.toNat:=by
  refine srt_ext (r:=ordT) (fun a b h1 h2=>by unfold ordT at *;omega) ?_ ?_ fun x => ?_
  · refine isort_stable (f:=fun a:List Int=>a.getD 1 0) (g:=fun a:List Int=>a.getD 0 0) (fun x y=>cmp_dec _ _) _ ?_
    unfold tabL
    rw [List.pairwise_map]
    exact List.pairwise_lt_range.imp fun h=>by simp;omega
  · unfold tabR
    rw [List.pairwise_flatMap]
    refine ⟨fun r hr => ?_,List.pairwise_lt_range.imp fun {r1 r2} h => ?_⟩
    · unfold rkL
      rw [List.pairwise_map]
      refine (List.Pairwise.imp_of_mem (fun {a b} ha hb h => ?_) (List.pairwise_lt_range.filter _))
      obtain ⟨_,h1⟩:=List.mem_filter.1 ha
      obtain ⟨_,h2⟩:=List.mem_filter.1 hb
      have h1:=of_decide_eq_true h1
      have h2:=of_decide_eq_true h2
      refine .inr ⟨?_,?_⟩
      · show rankM c a=rankM c b
        omega
      · show (a:Int)<b
        omega
    · intro x hx y hy
      unfold rkL at hx hy
      obtain ⟨a,ha,rfl⟩:=List.mem_map.1 hx
      obtain ⟨b,hb,rfl⟩:=List.mem_map.1 hy
      have h1:=of_decide_eq_true (List.mem_filter.1 ha).2
      have h2:=of_decide_eq_true (List.mem_filter.1 hb).2
      refine .inl ?_
      show rankM c a<rankM c b
      omega
  · unfold tableM
    rw [(isort_perm _ _).mem_iff]
    unfold tabL tabR rkL
    rw [List.mem_map,List.mem_flatMap]
    constructor
    · rintro ⟨s,hs,rfl⟩
      have hs':=List.mem_range.1 hs
      have hb:=rank_bd c s (by omega)
      exact ⟨(rankM c s-1).toNat,List.mem_range.2 (by omega),List.mem_map.2 ⟨s,List.mem_filter.2 ⟨hs,decide_eq_true (by omega)⟩,rfl⟩⟩
    · rintro ⟨r,hr,hx⟩
      obtain ⟨s,hs,rfl⟩:=List.mem_map.1 hx
      exact ⟨s,(List.mem_filter.1 hs).1,rfl⟩
theorem tabR_uni(c:Cup)(n:Nat):uni 4 (tabR c n):=fun x hx=>by
  unfold tabR rkL at hx
  obtain ⟨r,_,hx⟩:=List.mem_flatMap.1 hx
  obtain ⟨s,_,rfl⟩:=List.mem_map.1 hx
  rfl

def badP(r:List Int)(p:Int):Bool:=decide (p≠0) && (decide (60<p+(r.count p:Int)-1) || r.any fun q=>decide (p<q) && decide (q≤p+(r.count p:Int)-1))
theorem clash_any(r:List Int)(h0:∀ x∈r,0≤x):KL.clashR r=r.any (badP r):=by
  cases e:r.any (badP r) with
  | false =>
    rw [KL.clash_iff r h0]
    intro p hp p0
    have h1:=List.any_eq_false.1 e p hp
    unfold badP at h1
    simp only [ne_eq,p0,not_false_eq_true,decide_true,Bool.true_and,Bool.or_eq_true,decide_eq_true_eq,not_or,Int.not_lt,List.any_eq_true,Bool.and_eq_true,not_exists,not_and] at h1
    obtain ⟨h2,h3⟩:=h1
    refine ⟨by omega,fun q hq hlt => ?_⟩
    have:=h3 q hq hlt
    omega
  | true =>
    obtain ⟨p,hp,h1⟩:=List.any_eq_true.1 e
    cases ec:KL.clashR r with
    | true=>rfl
    | false =>
      have hn:=(KL.clash_iff r h0).1 ec
      unfold badP at h1
      simp only [ne_eq,Bool.and_eq_true,decide_eq_true_eq,Bool.or_eq_true,List.any_eq_true] at h1
      obtain ⟨p0,h2⟩:=h1
      obtain ⟨n1,n2⟩:=hn p hp p0
      rcases h2 with h2 | ⟨q,hq,h3,h4⟩
      · omega
      · have:=n2 q hq h3
        omega
end KV
end Go.Proofs
end
namespace Go.Proofs
namespace KV
section
open KL
end
end KV
end Go.Proofs
section
namespace Go.Proofs
open KL Go.RowKit
namespace KV

theorem betS_trans{c:Cup}{x y z:Nat}(h1:betS c x y=true)(h2:betS c y z=true):betS c x z=true:=by
  rw [betS_iff] at h1 h2 ⊢
  rcases h1 with h1 | ⟨h1,g1⟩
  · rcases h2 with h2 | ⟨h2,g2⟩
    · exact .inl (by omega)
    · exact .inl (by omega)
  · rcases h2 with h2 | ⟨h2,g2⟩
    · exact .inl (by omega)
    · exact .inr ⟨by omega,lexGe_gt (.inr g1) g2⟩
section
variable {c:Cup} {F:List (List Int)} {s:Nat}
end
end KV
end Go.Proofs
end
namespace Go.Proofs
namespace KV
section
open KL
theorem betS_asym{c:Cup}{x y:Nat}(h:betS c x y=true):betS c y x=false:=by
  cases e:betS c y x with
  | false=>rfl
  | true=>have:=betS_trans h e;rw [betS_self] at this;cases this
theorem betS_tie{c:Cup}{x y z:Nat}(h1:betS c x y=false)(h2:betS c y x=false):betS c y z=betS c x z:=by
  have n1:¬ _:=fun h=>by rw [betS_iff.2 h] at h1;cases h1
  have n2:¬ _:=fun h=>by rw [betS_iff.2 h] at h2;cases h2
  have ht:totalM c x=totalM c y:=by
    by_cases g1:totalM c y<totalM c x
    · exact absurd (.inl g1) n1
    · by_cases g2:totalM c x<totalM c y
      · exact absurd (.inl g2) n2
      · omega
  have key:∀ n j,j≤n→1≤j→j≤60→(placesM c x).getD j 0=(placesM c y).getD j 0:=by
    intro n
    induction n with
    | zero=>intro j h1 h2;omega
    | succ n ih =>
      intro j hj h3 h4
      by_cases g1:(placesM c y).getD j 0<(placesM c x).getD j 0
      · exact absurd (.inr ⟨ht,j,h3,h4,g1,fun i i1 i2=>ih i (by omega) i1 (by omega)⟩) n1
      · by_cases g2:(placesM c x).getD j 0<(placesM c y).getD j 0
        · exact absurd (.inr ⟨ht.symm,j,h3,h4,g2,fun i i1 i2=>(ih i (by omega) i1 (by omega)).symm⟩) n2
        · omega
  have hp:∀ j,1≤j→j≤60→(placesM c x).getD j 0=(placesM c y).getD j 0:=fun j=>key j j (Nat.le_refl _)
  rw [Bool.eq_iff_iff,betS_iff,betS_iff,ht]
  constructor
  · rintro (h | ⟨h,g⟩)
    · exact .inl h
    · exact .inr ⟨h,lexGe_gt (.inl hp) g⟩
  · rintro (h | ⟨h,g⟩)
    · exact .inl h
    · exact .inr ⟨h,lexGe_gt (.inl fun j h1 h2=>(hp j h1 h2).symm) g⟩
theorem bet_total{c:Cup}{x y:Nat}:(totalM c y<totalM c x→betS c x y=true)∧(totalM c x<totalM c y→betS c x y=false):=by
  refine ⟨fun h=>betS_iff.2 (.inl h),fun h => ?_⟩
  cases e:betS c x y with
  | false=>rfl
  | true=>rcases betS_iff.1 e with h2 | ⟨h2,_⟩ <;> omega

theorem table_perm(c:Cup):(tableM c).Perm ((List.range c.sk.toNat).map (rowT c)):=isort_perm _ _
theorem table_len(c:Cup):(tableM c).length=c.sk.toNat:=by rw [(table_perm c).length_eq];simp
theorem table_pw(c:Cup):(tableM c).Pairwise fun a b=>a.getD 1 0<b.getD 1 0∨a.getD 1 0=b.getD 1 0∧a.getD 0 0<b.getD 0 0:=by
  refine isort_stable (f:=fun a:List Int=>a.getD 1 0) (g:=fun a:List Int=>a.getD 0 0) (fun x y=>cmp_dec _ _) _ ?_
  unfold tabL
  rw [List.pairwise_map]
  exact List.pairwise_lt_range.imp fun h=>by simp;omega
theorem table_row(c:Cup){i:Nat}(hi:i<(tableM c).length):∃ k,k<c.sk.toNat∧(tableM c)[i]? = some (rowT c k):=by
  have h:=(table_perm c).mem_iff.1 (List.getElem_mem hi)
  obtain ⟨k,hk,e⟩:=List.mem_map.1 h
  exact ⟨k,List.mem_range.1 hk,by rw [List.getElem?_eq_getElem hi,e]⟩
def seenL(c:Cup)(i:Nat):List Int:=((tableM c).take i).map fun r=>r.getD 0 0
theorem seen_succ{c:Cup}{i k:Nat}(h:(tableM c)[i]? = some (rowT c k)):seenL c (i+1)=seenL c i++[(k:Int)]:=by
  unfold seenL
  rw [List.take_add_one,h,List.map_append];rfl
theorem all_nodup(c:Cup):((tableM c).map fun r=>r.getD 0 0).Nodup:=by
  rw [((table_perm c).map fun r:List Int=>r.getD 0 0).nodup_iff,List.map_map]
  refine (List.pairwise_map.2 ?_:List.Pairwise _ _)
  exact List.pairwise_lt_range.imp fun {a b} h=>by
    show (a:Int)≠b
    omega
theorem seen_nodup(c:Cup)(i:Nat):(seenL c i).Nodup:=by
  unfold seenL
  rw [List.map_take]
  exact (List.take_sublist _ _).nodup (all_nodup c)
theorem seen_new{c:Cup}{i k:Nat}(h:(tableM c)[i]? = some (rowT c k)):(k:Int)∉seenL c i:=by
  have:=seen_nodup c (i+1)
  rw [seen_succ h,List.nodup_append] at this
  exact fun hm=>this.2.2 _ hm (k:Int) (by simp) rfl
theorem seen_mem{c:Cup}{i:Nat}{x:Int}(h:x∈seenL c i):∃ k:Nat,k<c.sk.toNat∧x=k:=by
  unfold seenL at h
  obtain ⟨r,hr,rfl⟩:=List.mem_map.1 h
  obtain ⟨k,hk,rfl⟩:=List.mem_map.1 ((table_perm c).mem_iff.1 (List.mem_of_mem_take hr))
  exact ⟨k,List.mem_range.1 hk,rfl⟩
def seenE(l:List Int):List (Value × PV):=l.map fun k=>(.int .i64 k,blP true)
theorem seenE_snoc(l:List Int)(k:Int):seenE (l++[k])=seenE l++[(.int .i64 k,blP true)]:=by unfold seenE;rw [List.map_append];rfl
theorem seen_keys{c:Cup}(hs:c.sk≤12)(i:Nat){k:Nat}(hk:k<c.sk.toNat):KeysOK .i64 (seenE (seenL c i)) (.int .i64 (k:Int)):=by
  have kb:∀ n:Nat,n<c.sk.toNat→keyB .i64 (.int .i64 (n:Int))=true:=fun n hn=>by
    show (decide (IntKind.i64=IntKind.i64) && (Lit.int .i64 (n:Int)).wf)=true
    rw [wf_int (by omega)];rfl
  refine ⟨fun e he => ?_,kb k hk,?_⟩
  · obtain ⟨x,hx,rfl⟩:=List.mem_map.1 he
    obtain ⟨n,hn,rfl⟩:=seen_mem hx
    exact kb n hn
  · unfold seenE
    rw [List.map_map]
    have:(seenL c i).map ((fun e:Value × PV=>keyI e.1) ∘ fun k=>(Value.int .i64 k,blP true))=seenL c i:=by
      conv=>rhs;rw [← List.map_id (seenL c i)]
      exact List.map_congr_left fun x _=>rfl
    rw [this]
    exact seen_nodup c i
theorem seen_hit{c:Cup}{i k:Nat}(h:(tableM c)[i]? = some (rowT c k)):hitB (seenE (seenL c i)) (.int .i64 (k:Int))=false:=by
  unfold hitB
  rw [List.any_eq_false]
  intro e he
  obtain ⟨x,hx,rfl⟩:=List.mem_map.1 he
  intro h2
  have h3:x=(k:Int):=of_decide_eq_true h2
  exact seen_new h (h3 ▸ hx)
def winsUp(c:Cup)(k n:Nat):Int:=((c.done.take n).countP fun r=>decide (r.getD k 0=1):Nat)
theorem winsUp_succ{c:Cup}{k n:Nat}{r:List Int}(h:c.done[n]? = some r):winsUp c k (n+1)=winsUp c k n+if r.getD k 0=1 then 1 else 0:=by
  unfold winsUp
  rw [List.take_add_one,h,List.countP_append]
  have e1:[r].countP (fun r=>decide (r.getD k 0=1))=if r.getD k 0=1 then 1 else 0:=by
    rw [List.countP_cons,List.countP_nil,Nat.zero_add]
    by_cases e:r.getD k 0=1
    · rw [if_pos e,if_pos (decide_eq_true e)]
    · rw [if_neg e,if_neg (by rw [decide_eq_true_eq];exact e)]
  rw [Option.toList_some,e1]
  by_cases e:r.getD k 0=1
  · rw [if_pos e,if_pos e];omega
  · rw [if_neg e,if_neg e];omega
theorem wins_all(c:Cup)(k:Nat):(placesM c k).getD 1 0=winsUp c k c.done.length:=by
  unfold placesM KL.placesUpTo winsUp
  rw [List.getD_eq_getElem?_getD,List.getElem?_map,List.getElem?_range (by omega)]
  simp [KL.oftenUpTo]
theorem winsUp_bd(c:Cup)(k n:Nat):0≤winsUp c k n∧winsUp c k n≤c.done.length:=by
  unfold winsUp
  have h1:=List.countP_le_length (p:=fun r:List Int=>decide (r.getD k 0=1)) (l:=c.done.take n)
  rw [List.length_take] at h1
  omega
theorem bttrUp_succ(c:Cup)(k n:Nat):bttrUp c k (n+1)=bttrUp c k n+if betS c n k=true then 1 else 0:=by
  unfold bttrUp
  rw [List.range_succ,List.countP_append]
  by_cases e:betS c n k=true <;> simp [e] <;> omega
theorem bttrUp_bd(c:Cup)(k n:Nat):1≤bttrUp c k n∧bttrUp c k n≤n+1:=by
  unfold bttrUp
  have h1:=List.countP_le_length (p:=fun x=>betS c x k) (l:=List.range n)
  rw [List.length_range] at h1
  omega
end
section
end
section
open KL
def outB(n a b:Int):Bool:=decide (n<a) || decide (b<n)
theorem falls_any(pts:List Int):KL.fallsB pts = !((List.range (pts.length-1)).any fun j=>decide (pts.getD j 0<pts.getD (j+1) 0)):=by
  unfold KL.fallsB KL.sortedB
  rw [Bool.eq_iff_iff]
  simp only [decide_eq_true_eq,Bool.not_eq_true',List.any_eq_false,List.mem_range,decide_eq_true_eq,Int.not_lt]
  constructor
  · intro h j hj
    have:=h j hj
    unfold KL.cmpDown KL.cmpI at this
    split at this
    · omega
    · split at this <;> omega
  · intro h j hj
    have:=h j hj
    unfold KL.cmpDown KL.cmpI
    repeat' split
    all_goals omega
end
section
open KL
def cntI(c:Cup)(s:Nat)(p:Int):Nat:=c.done.countP fun r=>decide (r.getD s 0=p)
def grtB(c:Cup)(k:Int):Bool:=(decide (k<c.sk) && decide (c.sk≤12)) || decide (65<c.pts.length) || decide (25<c.done.length) || c.done.any fun r=>decide (16<r.length)
end
section
open KL
theorem totalsUp_succ(c:Cup)(n:Nat):KL.totalsUp c (n+1)=KL.totalsUp c n++[totalM c n]:=by
  unfold KL.totalsUp
  rw [List.range_succ,List.map_append];rfl
end
section
open KL
theorem better3_ok(c:Cup)(hV:KL.Valid c)(a b:Int)(ha:0≤a∧a<c.sk)(hb:0≤b∧b<c.sk){base:Nat}:FV Tryz.prog 35 [.p (cupP c),.p (intP a),.p (intP b)] base (.tup [.p (blP (betS c a.toNat b.toNat)),.p (intP 0)]) []:=by
  have:=better2_ok c hV a.toNat b.toNat (by omega) (by omega) (base:=base)
  rwa [Int.toNat_of_nonneg ha.1,Int.toNat_of_nonneg hb.1] at this
theorem tableM_uni(c:Cup):uni 4 (tableM c):=by rw [table_ref];exact tabR_uni c _
end
section
open KL
noncomputable abbrev zU15c0:Code:=sub (cd Tryz.f6) [1,1,1,1,1,1,0,1,0,0]
noncomputable abbrev zU15c1:Code:=sub (cd Tryz.f6) [1,1,1,1,1,1,0,1,0,0,1,1,0,0,1,1,1,1,1,0,1,0,0]
noncomputable abbrev zU15c2:Code:=sub (cd Tryz.f6) [1,1,1,1,1,1,0,1,0,0,1,1,0,0,1,1,1,1,0,1,0,0]
theorem zU15q0:((0:Int) != (0:Int))=false:=by first | decide | simp
theorem zU15q1:((0:Int) == (0:Int))=true:=by first | decide | simp
def rkd_S0(a:Int)(b:Int)(o:Int)(c0:Cup)(i:Nat)(sne:List (Value × PV))(snk:Nat):St:=⟨fr 306 [(1,(.p (.v (.int .u8 a)))),(2,(.p (.v (.int .u8 b)))),(3,(.p (.v (.int .u8 o)))),(9,(.ptr 0 0)),(10,(.p (.sl ((tableM c0).length) ((tableM c0).flatten.map intP)))),(11,(.p (intP 0))),(12,(.p (intsP (totalsM c0)))),(13,(.p (intP 0))),(14,(.mp 1)),(67,(.p (.sl ((tableM c0).length) ((tableM c0).flatten.map intP)))),(68,(.p (intP (((tableM c0).length:Nat):Int)))),(69,(.p (intP (i:Int))))],[some (.box 25 [(.p (intP c0.sk)),(.p (intP c0.ra)),(.p (intP c0.be)),(.p (intsP c0.pts)),(.p (rowsP c0.done))]),some (.mp sne snk)]⟩
theorem rkd_p4{l:List Int}{a b o:Int}{c0:Cup}{m1 t2:Int}{i'3:Nat}{sn'4:List Int}(h0:0≤(0:Int)∧(0:Int)≤100000)(h1:2≤(8:Int)∧(8:Int)≤12)(h2:1≤(8:Int)∧(8:Int)≤20)(h3:madeM (8:Int) (8:Int) l (0:Int) (17:Int)=(c0,m1,t2))(h4:KL.Valid c0)(h5:0=(0:Int))(h6:(((tableM c0).length:Nat):Int)=c0.sk)(h7:(((totalsM c0).length:Nat):Int)=c0.sk)(hl8:LoopOK Tryz.prog 0 zU15c0 (rkd_S0 a b o c0 0 [] 0) (.exit 0) (rkd_S0 a b o c0 i'3 (seenE sn'4) sn'4.length))(h9:inR a)(h10:c0.sk≠0)(h11:inR b)(h12:inR o)(h13:0≤(a.tmod c0.sk)∧(a.tmod c0.sk)<c0.sk)(h14:0≤(b.tmod c0.sk)∧(b.tmod c0.sk)<c0.sk)(h15:0≤(o.tmod c0.sk)∧(o.tmod c0.sk)<c0.sk)(h16:(betS c0 (a.tmod c0.sk).toNat (b.tmod c0.sk).toNat)=true)(h17:(betS c0 (b.tmod c0.sk).toNat (a.tmod c0.sk).toNat)=false)(h18:(betS c0 (b.tmod c0.sk).toNat (o.tmod c0.sk).toNat)=false){base:Nat}:FV Tryz.prog 6 [(.p (.sl l.length (l.map byteP))),(.p (.v (.int .u8 a))),(.p (.v (.int .u8 b))),(.p (.v (.int .u8 o)))] base (.p (blP true)) []:=by
  exact FV.fin Tryz.func6 rfl (o:=[.c (.ptr 0 0) [(0,(deckO l 0 (17:Int)))],.c (.p (cupP c0)) [(0,(deckO l m1 t2))],.c (.tup [(.p (.sl ((tableM c0).length) ((tableM c0).flatten.map intP))),(.p (intP 0))]) [],.c (.tup [(.p (intsP (totalsM c0))),(.p (intP 0))]) [],bF,bF,bF,bF,bF,bF,bF,bF,bF,bF,bF,bF,bF,bF,bF,bF,.k 6 ⟨(rng [(0,1),(4,5),(15,9),(33,34),(70,147)]),[1,2],[],[]⟩ (.exit 0) (rkd_S0 a b o c0 i'3 (seenE sn'4) sn'4.length),.c (.tup [(.p (blP (betS c0 (a.tmod c0.sk).toNat (b.tmod c0.sk).toNat))),(.p (intP 0))]) [],.c (.tup [(.p (blP (betS c0 (b.tmod c0.sk).toNat (a.tmod c0.sk).toNat))),(.p (intP 0))]) [],.c (.tup [(.p (blP (betS c0 (b.tmod c0.sk).toNat (o.tmod c0.sk).toNat))),(.p (intP 0))]) [],.c (.tup [(.p (blP (betS c0 (a.tmod c0.sk).toNat (o.tmod c0.sk).toNat))),(.p (intP 0))]) [],bT,bT,bT,bT,bT,bT,bT,bT,bT,bT,bT,bT,bT,bT,bT,bT,bT,bT,bT,bF,bF,bT,bF,bT,bT,bT,bT,bT,bT,bT,.c (.p (blP true)) []]) (l:=[FC Tryz.prog 19 [] [] 2 (.p (blP true)) [],_,_,_,_,_,_,_,_,_,_,_,_,_,_,_,_,_,_,_,_,_,_,_,_,_,_,_,_,_,_,_,_,_,_,_,_,_,_,_,_,_,_,_,_,_,_,_,_,_,_,_,_,_,_,_,_,_,_,_,FC Tryz.prog 26 [(.ptr 0 0),(.p (intP 8)),(.p (intP 8))] [(0,(deckO l 0 (17:Int)))] 1 (.p (cupP c0)) [(0,(deckO l m1 t2))],FC Tryz.prog 27 [(.p (.sl l.length (l.map byteP)))] [] 0 (.ptr 0 0) [(0,(deckO l 0 (17:Int)))]]) (by kernel_rfl) (gc (FV.fc (awake_ok _) rfl) (gc h16 (gc h16 (gc (q_not h17) (gc (q_not h18) (gc (q_not h17) (gc (q_not h18) (gc (q_not h17) (gc (q_notF h16) (gc (q_not h17) (gc (q_notF h16) (gc (q_notF h16) (gc (q_not h17) (gc (q_not h17) (gc (q_not h17) (gc zU15q1 (gc zU15q1 (gc h16 (gc zU15q1 (gc h16 (gc zU15q1 (gc zU15q1 (gc zU15q1 (gc zU15q1 (gc zU15q1 (gc zU15q1 (gc zU15q1 (gc zU15q1 (gc zU15q1 (gc zU15q1 (gc zU15q1 (gc (fk 2 (better3_ok c0 h4 (a.tmod c0.sk) (o.tmod c0.sk) h13 h15) rfl) (gc (fk 2 (better3_ok c0 h4 (b.tmod c0.sk) (o.tmod c0.sk) h14 h15) rfl) (gc (fk 2 (better3_ok c0 h4 (b.tmod c0.sk) (a.tmod c0.sk) h14 h13) rfl) (gc (fk 2 (better3_ok c0 h4 (a.tmod c0.sk) (b.tmod c0.sk) h13 h14) rfl) (gc h10 (gc h12 (gc h10 (gc h11 (gc h10 (gc h9 (gc hl8.code (gc (q_neF h7) (gc (q_neF h6) (gc (q_neF h6) (gc (q_neF h6) (gc (q_neF h6) (gc (q_neF h6) (gc (q_neF h6) (gc (q_neF h5) (gc (q_neF h5) (gc (q_neF h5) (gc (q_neF h5) (gc (q_neF h5) (gc (q_neF h5) (gc zU15q0 (gc zU15q0 (gc zU15q0 (gc (fk 2 (totals2_ok c0 h4) rfl) (gc (fk 2 (table_ok c0 h4) rfl) (gc (FMM.fc (ids:=[0]) (made_eq (8:Int) (8:Int) l (0:Int) (17:Int) h0 h1 h2 h3) (by kernel_rfl)) (gc (FMM.fc (ids:=[]) (of_ok l) (by kernel_rfl)) gn))))))))))))))))))))))))))))))))))))))))))))))))))))))))))))))
theorem rkd_p5{l:List Int}{a b o:Int}{c0:Cup}{m1 t2:Int}{i'3:Nat}{sn'4:List Int}(h0:0≤(0:Int)∧(0:Int)≤100000)(h1:2≤(8:Int)∧(8:Int)≤12)(h2:1≤(8:Int)∧(8:Int)≤20)(h3:madeM (8:Int) (8:Int) l (0:Int) (17:Int)=(c0,m1,t2))(h4:KL.Valid c0)(h5:0=(0:Int))(h6:(((tableM c0).length:Nat):Int)=c0.sk)(h7:(((totalsM c0).length:Nat):Int)=c0.sk)(hl8:LoopOK Tryz.prog 0 zU15c0 (rkd_S0 a b o c0 0 [] 0) (.exit 0) (rkd_S0 a b o c0 i'3 (seenE sn'4) sn'4.length))(h9:inR a)(h10:c0.sk≠0)(h11:inR b)(h12:inR o)(h13:0≤(a.tmod c0.sk)∧(a.tmod c0.sk)<c0.sk)(h14:0≤(b.tmod c0.sk)∧(b.tmod c0.sk)<c0.sk)(h15:0≤(o.tmod c0.sk)∧(o.tmod c0.sk)<c0.sk)(h16:(betS c0 (a.tmod c0.sk).toNat (b.tmod c0.sk).toNat)=true)(h17:(betS c0 (b.tmod c0.sk).toNat (a.tmod c0.sk).toNat)=false)(h18:(betS c0 (b.tmod c0.sk).toNat (o.tmod c0.sk).toNat)=true)(h19:(betS c0 (a.tmod c0.sk).toNat (o.tmod c0.sk).toNat)=true){base:Nat}:FV Tryz.prog 6 [(.p (.sl l.length (l.map byteP))),(.p (.v (.int .u8 a))),(.p (.v (.int .u8 b))),(.p (.v (.int .u8 o)))] base (.p (blP true)) []:=by
  exact FV.fin Tryz.func6 rfl (o:=[.c (.ptr 0 0) [(0,(deckO l 0 (17:Int)))],.c (.p (cupP c0)) [(0,(deckO l m1 t2))],.c (.tup [(.p (.sl ((tableM c0).length) ((tableM c0).flatten.map intP))),(.p (intP 0))]) [],.c (.tup [(.p (intsP (totalsM c0))),(.p (intP 0))]) [],bF,bF,bF,bF,bF,bF,bF,bF,bF,bF,bF,bF,bF,bF,bF,bF,.k 6 ⟨(rng [(0,1),(4,5),(15,9),(33,34),(70,147)]),[1,2],[],[]⟩ (.exit 0) (rkd_S0 a b o c0 i'3 (seenE sn'4) sn'4.length),.c (.tup [(.p (blP (betS c0 (a.tmod c0.sk).toNat (b.tmod c0.sk).toNat))),(.p (intP 0))]) [],.c (.tup [(.p (blP (betS c0 (b.tmod c0.sk).toNat (a.tmod c0.sk).toNat))),(.p (intP 0))]) [],.c (.tup [(.p (blP (betS c0 (b.tmod c0.sk).toNat (o.tmod c0.sk).toNat))),(.p (intP 0))]) [],.c (.tup [(.p (blP (betS c0 (a.tmod c0.sk).toNat (o.tmod c0.sk).toNat))),(.p (intP 0))]) [],bT,bT,bT,bT,bT,bT,bT,bT,bT,bT,bT,bT,bT,bT,bT,bT,bT,bT,bT,bF,bF,bT,bF,bT,bF,bT,bF,bT,bT,bT,bT,bT,bT,bT,bT,bT,.c (.p (blP true)) []]) (l:=[FC Tryz.prog 19 [] [] 2 (.p (blP true)) [],_,_,_,_,_,_,_,_,_,_,_,_,_,_,_,_,_,_,_,_,_,_,_,_,_,_,_,_,_,_,_,_,_,_,_,_,_,_,_,_,_,_,_,_,_,_,_,_,_,_,_,_,_,_,_,_,_,_,_,_,_,_,_,_,_,FC Tryz.prog 26 [(.ptr 0 0),(.p (intP 8)),(.p (intP 8))] [(0,(deckO l 0 (17:Int)))] 1 (.p (cupP c0)) [(0,(deckO l m1 t2))],FC Tryz.prog 27 [(.p (.sl l.length (l.map byteP)))] [] 0 (.ptr 0 0) [(0,(deckO l 0 (17:Int)))]]) (by kernel_rfl) (gc (FV.fc (awake_ok _) rfl) (gc h19 (gc h19 (gc h19 (gc h16 (gc h19 (gc h16 (gc h19 (gc h19 (gc (q_not h17) (gc (q_notF h18) (gc (q_not h17) (gc (q_notF h18) (gc (q_not h17) (gc (q_notF h16) (gc (q_not h17) (gc (q_notF h16) (gc (q_notF h16) (gc (q_not h17) (gc (q_not h17) (gc (q_not h17) (gc zU15q1 (gc zU15q1 (gc h16 (gc zU15q1 (gc h16 (gc zU15q1 (gc zU15q1 (gc zU15q1 (gc zU15q1 (gc zU15q1 (gc zU15q1 (gc zU15q1 (gc zU15q1 (gc zU15q1 (gc zU15q1 (gc zU15q1 (gc (fk 2 (better3_ok c0 h4 (a.tmod c0.sk) (o.tmod c0.sk) h13 h15) rfl) (gc (fk 2 (better3_ok c0 h4 (b.tmod c0.sk) (o.tmod c0.sk) h14 h15) rfl) (gc (fk 2 (better3_ok c0 h4 (b.tmod c0.sk) (a.tmod c0.sk) h14 h13) rfl) (gc (fk 2 (better3_ok c0 h4 (a.tmod c0.sk) (b.tmod c0.sk) h13 h14) rfl) (gc h10 (gc h12 (gc h10 (gc h11 (gc h10 (gc h9 (gc hl8.code (gc (q_neF h7) (gc (q_neF h6) (gc (q_neF h6) (gc (q_neF h6) (gc (q_neF h6) (gc (q_neF h6) (gc (q_neF h6) (gc (q_neF h5) (gc (q_neF h5) (gc (q_neF h5) (gc (q_neF h5) (gc (q_neF h5) (gc (q_neF h5) (gc zU15q0 (gc zU15q0 (gc zU15q0 (gc (fk 2 (totals2_ok c0 h4) rfl) (gc (fk 2 (table_ok c0 h4) rfl) (gc (FMM.fc (ids:=[0]) (made_eq (8:Int) (8:Int) l (0:Int) (17:Int) h0 h1 h2 h3) (by kernel_rfl)) (gc (FMM.fc (ids:=[]) (of_ok l) (by kernel_rfl)) gn))))))))))))))))))))))))))))))))))))))))))))))))))))))))))))))))))))
theorem rkd_p8{l:List Int}{a b o:Int}{c0:Cup}{m1 t2:Int}{i'3:Nat}{sn'4:List Int}(h0:0≤(0:Int)∧(0:Int)≤100000)(h1:2≤(8:Int)∧(8:Int)≤12)(h2:1≤(8:Int)∧(8:Int)≤20)(h3:madeM (8:Int) (8:Int) l (0:Int) (17:Int)=(c0,m1,t2))(h4:KL.Valid c0)(h5:0=(0:Int))(h6:(((tableM c0).length:Nat):Int)=c0.sk)(h7:(((totalsM c0).length:Nat):Int)=c0.sk)(hl8:LoopOK Tryz.prog 0 zU15c0 (rkd_S0 a b o c0 0 [] 0) (.exit 0) (rkd_S0 a b o c0 i'3 (seenE sn'4) sn'4.length))(h9:inR a)(h10:c0.sk≠0)(h11:inR b)(h12:inR o)(h13:0≤(a.tmod c0.sk)∧(a.tmod c0.sk)<c0.sk)(h14:0≤(b.tmod c0.sk)∧(b.tmod c0.sk)<c0.sk)(h15:0≤(o.tmod c0.sk)∧(o.tmod c0.sk)<c0.sk)(h16:(betS c0 (a.tmod c0.sk).toNat (b.tmod c0.sk).toNat)=false)(h17:(betS c0 (b.tmod c0.sk).toNat (a.tmod c0.sk).toNat)=true){base:Nat}:FV Tryz.prog 6 [(.p (.sl l.length (l.map byteP))),(.p (.v (.int .u8 a))),(.p (.v (.int .u8 b))),(.p (.v (.int .u8 o)))] base (.p (blP true)) []:=by
  exact FV.fin Tryz.func6 rfl (o:=[.c (.ptr 0 0) [(0,(deckO l 0 (17:Int)))],.c (.p (cupP c0)) [(0,(deckO l m1 t2))],.c (.tup [(.p (.sl ((tableM c0).length) ((tableM c0).flatten.map intP))),(.p (intP 0))]) [],.c (.tup [(.p (intsP (totalsM c0))),(.p (intP 0))]) [],bF,bF,bF,bF,bF,bF,bF,bF,bF,bF,bF,bF,bF,bF,bF,bF,.k 6 ⟨(rng [(0,1),(4,5),(15,9),(33,34),(70,147)]),[1,2],[],[]⟩ (.exit 0) (rkd_S0 a b o c0 i'3 (seenE sn'4) sn'4.length),.c (.tup [(.p (blP (betS c0 (a.tmod c0.sk).toNat (b.tmod c0.sk).toNat))),(.p (intP 0))]) [],.c (.tup [(.p (blP (betS c0 (b.tmod c0.sk).toNat (a.tmod c0.sk).toNat))),(.p (intP 0))]) [],.c (.tup [(.p (blP (betS c0 (b.tmod c0.sk).toNat (o.tmod c0.sk).toNat))),(.p (intP 0))]) [],.c (.tup [(.p (blP (betS c0 (a.tmod c0.sk).toNat (o.tmod c0.sk).toNat))),(.p (intP 0))]) [],bT,bT,bT,bT,bT,bT,bT,bT,bT,bT,bT,bF,bT,bF,bT,bT,bT,bT,bT,bF,bF,bT,bT,bT,bT,.c (.p (blP true)) []]) (l:=[FC Tryz.prog 19 [] [] 2 (.p (blP true)) [],_,_,_,_,_,_,_,_,_,_,_,_,_,_,_,_,_,_,_,_,_,_,_,_,_,_,_,_,_,_,_,_,_,_,_,_,_,_,_,_,_,_,_,_,_,_,_,_,_,_,_,_,_,_,FC Tryz.prog 26 [(.ptr 0 0),(.p (intP 8)),(.p (intP 8))] [(0,(deckO l 0 (17:Int)))] 1 (.p (cupP c0)) [(0,(deckO l m1 t2))],FC Tryz.prog 27 [(.p (.sl l.length (l.map byteP)))] [] 0 (.ptr 0 0) [(0,(deckO l 0 (17:Int)))]]) (by kernel_rfl) (gc (FV.fc (awake_ok _) rfl) (gc h17 (gc h17 (gc h17 (gc h17 (gc h16 (gc h16 (gc (q_not h16) (gc (q_not h16) (gc (q_not h16) (gc zU15q1 (gc zU15q1 (gc h16 (gc zU15q1 (gc h16 (gc zU15q1 (gc zU15q1 (gc zU15q1 (gc zU15q1 (gc zU15q1 (gc zU15q1 (gc zU15q1 (gc zU15q1 (gc zU15q1 (gc zU15q1 (gc zU15q1 (gc (fk 2 (better3_ok c0 h4 (a.tmod c0.sk) (o.tmod c0.sk) h13 h15) rfl) (gc (fk 2 (better3_ok c0 h4 (b.tmod c0.sk) (o.tmod c0.sk) h14 h15) rfl) (gc (fk 2 (better3_ok c0 h4 (b.tmod c0.sk) (a.tmod c0.sk) h14 h13) rfl) (gc (fk 2 (better3_ok c0 h4 (a.tmod c0.sk) (b.tmod c0.sk) h13 h14) rfl) (gc h10 (gc h12 (gc h10 (gc h11 (gc h10 (gc h9 (gc hl8.code (gc (q_neF h7) (gc (q_neF h6) (gc (q_neF h6) (gc (q_neF h6) (gc (q_neF h6) (gc (q_neF h6) (gc (q_neF h6) (gc (q_neF h5) (gc (q_neF h5) (gc (q_neF h5) (gc (q_neF h5) (gc (q_neF h5) (gc (q_neF h5) (gc zU15q0 (gc zU15q0 (gc zU15q0 (gc (fk 2 (totals2_ok c0 h4) rfl) (gc (fk 2 (table_ok c0 h4) rfl) (gc (FMM.fc (ids:=[0]) (made_eq (8:Int) (8:Int) l (0:Int) (17:Int) h0 h1 h2 h3) (by kernel_rfl)) (gc (FMM.fc (ids:=[]) (of_ok l) (by kernel_rfl)) gn)))))))))))))))))))))))))))))))))))))))))))))))))))))))))
theorem rkd_p9{l:List Int}{a b o:Int}{c0:Cup}{m1 t2:Int}{i'3:Nat}{sn'4:List Int}(h0:0≤(0:Int)∧(0:Int)≤100000)(h1:2≤(8:Int)∧(8:Int)≤12)(h2:1≤(8:Int)∧(8:Int)≤20)(h3:madeM (8:Int) (8:Int) l (0:Int) (17:Int)=(c0,m1,t2))(h4:KL.Valid c0)(h5:0=(0:Int))(h6:(((tableM c0).length:Nat):Int)=c0.sk)(h7:(((totalsM c0).length:Nat):Int)=c0.sk)(hl8:LoopOK Tryz.prog 0 zU15c0 (rkd_S0 a b o c0 0 [] 0) (.exit 0) (rkd_S0 a b o c0 i'3 (seenE sn'4) sn'4.length))(h9:inR a)(h10:c0.sk≠0)(h11:inR b)(h12:inR o)(h13:0≤(a.tmod c0.sk)∧(a.tmod c0.sk)<c0.sk)(h14:0≤(b.tmod c0.sk)∧(b.tmod c0.sk)<c0.sk)(h15:0≤(o.tmod c0.sk)∧(o.tmod c0.sk)<c0.sk)(h16:(betS c0 (a.tmod c0.sk).toNat (b.tmod c0.sk).toNat)=false)(h17:(betS c0 (b.tmod c0.sk).toNat (a.tmod c0.sk).toNat)=false)(h18:((betS c0 (b.tmod c0.sk).toNat (o.tmod c0.sk).toNat) == (betS c0 (a.tmod c0.sk).toNat (o.tmod c0.sk).toNat))=true){base:Nat}:FV Tryz.prog 6 [(.p (.sl l.length (l.map byteP))),(.p (.v (.int .u8 a))),(.p (.v (.int .u8 b))),(.p (.v (.int .u8 o)))] base (.p (blP true)) []:=by
  exact FV.fin Tryz.func6 rfl (o:=[.c (.ptr 0 0) [(0,(deckO l 0 (17:Int)))],.c (.p (cupP c0)) [(0,(deckO l m1 t2))],.c (.tup [(.p (.sl ((tableM c0).length) ((tableM c0).flatten.map intP))),(.p (intP 0))]) [],.c (.tup [(.p (intsP (totalsM c0))),(.p (intP 0))]) [],bF,bF,bF,bF,bF,bF,bF,bF,bF,bF,bF,bF,bF,bF,bF,bF,.k 6 ⟨(rng [(0,1),(4,5),(15,9),(33,34),(70,147)]),[1,2],[],[]⟩ (.exit 0) (rkd_S0 a b o c0 i'3 (seenE sn'4) sn'4.length),.c (.tup [(.p (blP (betS c0 (a.tmod c0.sk).toNat (b.tmod c0.sk).toNat))),(.p (intP 0))]) [],.c (.tup [(.p (blP (betS c0 (b.tmod c0.sk).toNat (a.tmod c0.sk).toNat))),(.p (intP 0))]) [],.c (.tup [(.p (blP (betS c0 (b.tmod c0.sk).toNat (o.tmod c0.sk).toNat))),(.p (intP 0))]) [],.c (.tup [(.p (blP (betS c0 (a.tmod c0.sk).toNat (o.tmod c0.sk).toNat))),(.p (intP 0))]) [],bT,bT,bT,bT,bT,bT,bT,bT,bT,bT,bT,bF,bT,bF,bT,bT,bT,bT,bT,bF,bF,bF,bF,bF,bF,bT,.c (.p (blP true)) [],bT]) (l:=[_,FC Tryz.prog 19 [] [] 2 (.p (blP true)) [],_,_,_,_,_,_,_,_,_,_,_,_,_,_,_,_,_,_,_,_,_,_,_,_,_,_,_,_,_,_,_,_,_,_,_,_,_,_,_,_,_,_,_,_,_,_,_,_,_,_,_,_,_,_,_,FC Tryz.prog 26 [(.ptr 0 0),(.p (intP 8)),(.p (intP 8))] [(0,(deckO l 0 (17:Int)))] 1 (.p (cupP c0)) [(0,(deckO l m1 t2))],FC Tryz.prog 27 [(.p (.sl l.length (l.map byteP)))] [] 0 (.ptr 0 0) [(0,(deckO l 0 (17:Int)))]]) (by kernel_rfl) (gc h18 (gc (FV.fc (awake_ok _) rfl) (gc h18 (gc h17 (gc h17 (gc h17 (gc h17 (gc h16 (gc h16 (gc (q_not h16) (gc (q_not h16) (gc (q_not h16) (gc zU15q1 (gc zU15q1 (gc h16 (gc zU15q1 (gc h16 (gc zU15q1 (gc zU15q1 (gc zU15q1 (gc zU15q1 (gc zU15q1 (gc zU15q1 (gc zU15q1 (gc zU15q1 (gc zU15q1 (gc zU15q1 (gc zU15q1 (gc (fk 2 (better3_ok c0 h4 (a.tmod c0.sk) (o.tmod c0.sk) h13 h15) rfl) (gc (fk 2 (better3_ok c0 h4 (b.tmod c0.sk) (o.tmod c0.sk) h14 h15) rfl) (gc (fk 2 (better3_ok c0 h4 (b.tmod c0.sk) (a.tmod c0.sk) h14 h13) rfl) (gc (fk 2 (better3_ok c0 h4 (a.tmod c0.sk) (b.tmod c0.sk) h13 h14) rfl) (gc h10 (gc h12 (gc h10 (gc h11 (gc h10 (gc h9 (gc hl8.code (gc (q_neF h7) (gc (q_neF h6) (gc (q_neF h6) (gc (q_neF h6) (gc (q_neF h6) (gc (q_neF h6) (gc (q_neF h6) (gc (q_neF h5) (gc (q_neF h5) (gc (q_neF h5) (gc (q_neF h5) (gc (q_neF h5) (gc (q_neF h5) (gc zU15q0 (gc zU15q0 (gc zU15q0 (gc (fk 2 (totals2_ok c0 h4) rfl) (gc (fk 2 (table_ok c0 h4) rfl) (gc (FMM.fc (ids:=[0]) (made_eq (8:Int) (8:Int) l (0:Int) (17:Int) h0 h1 h2 h3) (by kernel_rfl)) (gc (FMM.fc (ids:=[]) (of_ok l) (by kernel_rfl)) gn)))))))))))))))))))))))))))))))))))))))))))))))))))))))))))
def rkd_S1(a:Int)(b:Int)(o:Int)(c0:Cup)(i:Nat)(sn:List Int)(y100:Int)(y101:Int)(y102:Int)(y103:Int)(j:Nat)(wn:Int):St:=⟨fr 306 [(1,(.p (.v (.int .u8 a)))),(2,(.p (.v (.int .u8 b)))),(3,(.p (.v (.int .u8 o)))),(9,(.ptr 0 0)),(10,(.p (.sl ((tableM c0).length) ((tableM c0).flatten.map intP)))),(11,(.p (intP 0))),(12,(.p (intsP (totalsM c0)))),(13,(.p (intP 0))),(14,(.mp 1)),(16,(.ptr 2 0)),(17,(.p (intP wn))),(18,(.p (intP 1))),(67,(.p (.sl ((tableM c0).length) ((tableM c0).flatten.map intP)))),(68,(.p (intP (((tableM c0).length:Nat):Int)))),(69,(.p (intP (i:Int)))),(137,(.mp 1)),(138,(.ptr 2 0)),(139,(.p (intP y100))),(140,(.ptr 0 4)),(141,(.p (rowsP c0.done))),(142,(.p (intP (c0.done.length:Int)))),(143,(.p (intP (j:Int))))],[some (.box 25 [(.p (intP c0.sk)),(.p (intP c0.ra)),(.p (intP c0.be)),(.p (intsP c0.pts)),(.p (rowsP c0.done))]),some (.mp ((seenE sn)++[((.int .i64 y100),(blP true))]) (sn.length+1)),some (.box 61 [(.p (intP y100)),(.p (intP y101)),(.p (intP y102)),(.p (intP y103))])]⟩
def rkd_S2(a:Int)(b:Int)(o:Int)(c0:Cup)(i:Nat)(sn:List Int)(y100:Int)(y101:Int)(y102:Int)(y103:Int)(s:Nat)(rk:Int)(w2:Int):St:=⟨fr 306 [(1,(.p (.v (.int .u8 a)))),(2,(.p (.v (.int .u8 b)))),(3,(.p (.v (.int .u8 o)))),(9,(.ptr 0 0)),(10,(.p (.sl ((tableM c0).length) ((tableM c0).flatten.map intP)))),(11,(.p (intP 0))),(12,(.p (intsP (totalsM c0)))),(13,(.p (intP 0))),(14,(.mp 1)),(16,(.ptr 2 0)),(17,(.p (intP w2))),(18,(.p (intP rk))),(67,(.p (.sl ((tableM c0).length) ((tableM c0).flatten.map intP)))),(68,(.p (intP (((tableM c0).length:Nat):Int)))),(69,(.p (intP (i:Int)))),(156,(.ptr 0 0)),(157,(.p (intP c0.sk))),(158,(.p (intP (s:Int))))],[some (.box 25 [(.p (intP c0.sk)),(.p (intP c0.ra)),(.p (intP c0.be)),(.p (intsP c0.pts)),(.p (rowsP c0.done))]),some (.mp ((seenE sn)++[((.int .i64 y100),(blP true))]) (sn.length+1)),some (.box 61 [(.p (intP y100)),(.p (intP y101)),(.p (intP y102)),(.p (intP y103))])]⟩
theorem rkd_L0_p7{a b o:Int}{c0:Cup}{i:Nat}{sn:List Int}{y100 y101 y102 y103 x104 y105 y106 y107 y108:Int}{j'109:Nat}{wn'110:Int}{s'111:Nat}{rk'112 w2'113:Int}{i':Nat}{sn':List Int}(h0:(i:Int)<(((tableM c0).length:Nat):Int))(h1:(tableM c0)[i]? = some [y100,y101,y102,y103])(h2:uni 4 (tableM c0))(h3:(0:Int)≤y100)(h4:y100<c0.sk)(h5:KeysOK .i64 (seenE sn) (.int .i64 y100))(h6:(hitB (seenE sn) (.int .i64 y100))=false)(h7:(totalsM c0)[y100.toNat]? = some x104)(h8:0≤y100)(h9:y102=x104)(h10:(0:Int)<(i:Int))(h11:inR ((i:Int)-(1:Int)))(h12:(tableM c0)[((i:Int)-(1:Int)).toNat]? = some [y105,y106,y107,y108])(h13:0≤((i:Int)-(1:Int)))(h14:y106≤y101)(h15:y106=y101)(h16:y105<y100)(hl17:LoopOK Tryz.prog 0 zU15c2 (rkd_S1 a b o c0 i sn y100 y101 y102 y103 0 (0:Int)) (.exit 2) (rkd_S1 a b o c0 i sn y100 y101 y102 y103 j'109 wn'110))(hl18:LoopOK Tryz.prog 0 zU15c1 (rkd_S2 a b o c0 i sn y100 y101 y102 y103 0 (1:Int) wn'110) (.exit 4) (rkd_S2 a b o c0 i sn y100 y101 y102 y103 s'111 rk'112 w2'113))(h19:y103=w2'113)(h20:y101=rk'112)(h21:inR (((i+1):Nat):Int))(ei':i'=(i+1))(esn'e:seenE sn'=((seenE sn)++[((.int .i64 y100),(blP true))]))(esn'k:sn'.length=(sn.length+1)):CodeOK Tryz.prog 0 zU15c0 (rkd_S0 a b o c0 i (seenE sn) sn.length) .normal (rkd_S0 a b o c0 i' (seenE sn') sn'.length):=by
  subst ei'
  have raw:CodeOK Tryz.prog 0 zU15c0 (rkd_S0 a b o c0 i (seenE sn) sn.length) .normal (rkd_S0 a b o c0 (i+1) ((seenE sn)++[((.int .i64 y100),(blP true))]) (sn.length+1)):=CodeOK.fin (g:=⟨(rng [(0,1),(4,5),(15,9),(33,34),(70,147)]),[0,1],[],[]⟩) (o:=[bT,.x (.agg [(intP y100),(intP y101),(intP y102),(intP y103)]),bF,bF,bF,bF,bF,bF,bF,bF,bF,bF,bF,bF,bF,bF,bF,bF,bF,bF,bF,.x (intP x104),bF,bF,bF,bF,bF,bT,bT,bT,bT,bT,bT,.x (intP y106),bT,bT,bT,bT,bF,bF,bF,bF,bF,bF,.x (intP y106),bF,bF,bF,bF,bT,bT,bT,bT,bT,bT,.x (intP y105),bT,bT,bT,bF,bT,bT,bF,bF,bT,bF,bF,bF,.k 6 ⟨(rng [(0,1),(4,4),(15,1),(19,2),(33,34),(70,67),(144,12)]),[0,1,2],[],[]⟩ (.exit 2) (rkd_S1 a b o c0 i sn y100 y101 y102 y103 j'109 wn'110),.k 4 ⟨(rng [(0,1),(4,5),(15,1),(19,1),(21,3),(33,34),(70,74),(159,47)]),[0,1,2],[],[]⟩ (.exit 4) (rkd_S2 a b o c0 i sn y100 y101 y102 y103 s'111 rk'112 w2'113),bF,bF,bF,bF,bF,bF]) (l:=[_,_,_,_,_,_,_,_,_,_,_,_,_,_,_,_,_,_,_,_,_,_,((tableM c0).flatten.map intP)[(((i:Int)-(1:Int)).toNat*4)]? = some (intP y105),_,_,0≤((i:Int)-(1:Int))∧((i:Int)-(1:Int))<(((tableM c0).length:Nat):Int)∧(((i:Int)-(1:Int)).toNat*4)<((tableM c0).flatten.map intP).length,_,_,_,_,_,_,_,_,_,((tableM c0).flatten.map intP)[((((i:Int)-(1:Int)).toNat*4)+1)]? = some (intP y106),_,_,0≤((i:Int)-(1:Int))∧((i:Int)-(1:Int))<(((tableM c0).length:Nat):Int)∧(((i:Int)-(1:Int)).toNat*4)<((tableM c0).flatten.map intP).length,_,_,_,_,_,_,_,_,_,((tableM c0).flatten.map intP)[((((i:Int)-(1:Int)).toNat*4)+1)]? = some (intP y106),_,_,0≤((i:Int)-(1:Int))∧((i:Int)-(1:Int))<(((tableM c0).length:Nat):Int)∧(((i:Int)-(1:Int)).toNat*4)<((tableM c0).flatten.map intP).length,_,_,_,_,_,_,_,_,false=false,false=false,((totalsM c0).map intP)[(y100.toNat*1)]? = some (intP x104),false=false,_,false=false,false=false,false=false,false=false,false=false,false=false,_,_,_,_,_,_,_,_,_,_,_,_,_,_,_,0≤(i:Int)∧(i:Int)<(((tableM c0).length:Nat):Int)∧(i*4)<((tableM c0).flatten.map intP).length,_]) (by kernel_rfl) (gc h21 (gc (q_neF h20) (gc (q_neF h19) (gc (q_neF h19) (gc (q_neF h19) (gc (q_neF h19) (gc (q_neF h19) (gc hl18.code (gc hl17.code (gc h6 (gc h5 (gc (q_leF h16) (gc (q_neF h9) (gc (q_lt h10) (gc (q_neF h9) (gc (q_ltF h14) (gc (q_lt h10) (gc (q_eq h15) (gc (q_ltF h14) (gc (q_eq h15) (gc (q_eq h15) (gc (q_eq h15) (gc (fl_field (i:=((i:Int)-(1:Int)).toNat) (f:=0) h2 h12 rfl) (gc (q_eq h15) (gc (q_eq h15) (gc (ix_fl (k:=4) (i:=((i:Int)-(1:Int))) (by decide) h2 h13 h12) (gc (q_eq h15) (gc h11 (gc (q_eq h15) (gc (q_eq h15) (gc (q_eq h15) (gc (q_ltF h14) (gc (q_ltF h14) (gc (q_ltF h14) (gc (q_ltF h14) (gc (fl_field (i:=((i:Int)-(1:Int)).toNat) (f:=1) h2 h12 rfl) (gc (q_ltF h14) (gc (q_ltF h14) (gc (ix_fl (k:=4) (i:=((i:Int)-(1:Int))) (by decide) h2 h13 h12) (gc (q_ltF h14) (gc h11 (gc (q_ltF h14) (gc (q_ltF h14) (gc (q_ltF h14) (gc (q_lt h10) (gc (q_lt h10) (gc (q_lt h10) (gc (q_lt h10) (gc (fl_field (i:=((i:Int)-(1:Int)).toNat) (f:=1) h2 h12 rfl) (gc (q_lt h10) (gc (q_lt h10) (gc (ix_fl (k:=4) (i:=((i:Int)-(1:Int))) (by decide) h2 h13 h12) (gc (q_lt h10) (gc h11 (gc (q_lt h10) (gc (q_lt h10) (gc (q_lt h10) (gc (q_neF h9) (gc (q_neF h9) (gc (q_neF h9) (gc rfl (gc rfl (gc (at_map (i:=y100.toNat) h7) (gc rfl (gc (ix_map (g:=intP) h8 h7) (gc rfl (gc rfl (gc rfl (gc rfl (gc rfl (gc rfl (gc (q_leF h4) (gc h6 (gc h5 (gc (q_leF h4) (gc (q_leF h4) (gc (q_leF h4) (gc (q_leF h4) (gc (q_ltF h3) (gc (q_ltF h3) (gc (q_ltF h3) (gc (q_ltF h3) (gc (q_ltF h3) (gc (q_ltF h3) (gc (fl_load (i:=i) h2 h1) (gc (fl_le (i:=i) h2 h1) (gc (ix_fl (k:=4) (i:=(i:Int)) (by decide) h2 (Int.natCast_nonneg _) h1) (gc (q_lt h0) gn))))))))))))))))))))))))))))))))))))))))))))))))))))))))))))))))))))))))))))))))))))))))
  exact raw.cast (by rw [esn'e,esn'k])
theorem rkd_L0_p10{a b o:Int}{c0:Cup}{i:Nat}{sn:List Int}{y100 y101 y102 y103 x104 y105 y106 y107 y108:Int}{j'109:Nat}{wn'110:Int}{s'111:Nat}{rk'112 w2'113:Int}{i':Nat}{sn':List Int}(h0:(i:Int)<(((tableM c0).length:Nat):Int))(h1:(tableM c0)[i]? = some [y100,y101,y102,y103])(h2:uni 4 (tableM c0))(h3:(0:Int)≤y100)(h4:y100<c0.sk)(h5:KeysOK .i64 (seenE sn) (.int .i64 y100))(h6:(hitB (seenE sn) (.int .i64 y100))=false)(h7:(totalsM c0)[y100.toNat]? = some x104)(h8:0≤y100)(h9:y102=x104)(h10:(0:Int)<(i:Int))(h11:inR ((i:Int)-(1:Int)))(h12:(tableM c0)[((i:Int)-(1:Int)).toNat]? = some [y105,y106,y107,y108])(h13:0≤((i:Int)-(1:Int)))(h14:y106≤y101)(h15:y106≠y101)(hl16:LoopOK Tryz.prog 0 zU15c2 (rkd_S1 a b o c0 i sn y100 y101 y102 y103 0 (0:Int)) (.exit 2) (rkd_S1 a b o c0 i sn y100 y101 y102 y103 j'109 wn'110))(hl17:LoopOK Tryz.prog 0 zU15c1 (rkd_S2 a b o c0 i sn y100 y101 y102 y103 0 (1:Int) wn'110) (.exit 4) (rkd_S2 a b o c0 i sn y100 y101 y102 y103 s'111 rk'112 w2'113))(h18:y103=w2'113)(h19:y101=rk'112)(h20:inR (((i+1):Nat):Int))(ei':i'=(i+1))(esn'e:seenE sn'=((seenE sn)++[((.int .i64 y100),(blP true))]))(esn'k:sn'.length=(sn.length+1)):CodeOK Tryz.prog 0 zU15c0 (rkd_S0 a b o c0 i (seenE sn) sn.length) .normal (rkd_S0 a b o c0 i' (seenE sn') sn'.length):=by
  subst ei'
  have raw:CodeOK Tryz.prog 0 zU15c0 (rkd_S0 a b o c0 i (seenE sn) sn.length) .normal (rkd_S0 a b o c0 (i+1) ((seenE sn)++[((.int .i64 y100),(blP true))]) (sn.length+1)):=CodeOK.fin (g:=⟨(rng [(0,1),(4,5),(15,9),(33,34),(70,147)]),[0,1],[],[]⟩) (o:=[bT,.x (.agg [(intP y100),(intP y101),(intP y102),(intP y103)]),bF,bF,bF,bF,bF,bF,bF,bF,bF,bF,bF,bF,bF,bF,bF,bF,bF,bF,bF,.x (intP x104),bF,bF,bF,bF,bF,bT,bT,bT,bT,bT,bT,.x (intP y106),bT,bT,bT,bT,bF,bF,bF,bF,bF,bF,.x (intP y106),bF,bF,bF,bF,bF,bF,bF,bF,bF,bF,bF,bF,bF,bF,bF,bT,bF,bF,bT,bF,bF,.k 6 ⟨(rng [(0,1),(4,4),(15,1),(19,2),(33,34),(70,67),(144,12)]),[0,1,2],[],[]⟩ (.exit 2) (rkd_S1 a b o c0 i sn y100 y101 y102 y103 j'109 wn'110),.k 4 ⟨(rng [(0,1),(4,5),(15,1),(19,1),(21,3),(33,34),(70,74),(159,47)]),[0,1,2],[],[]⟩ (.exit 4) (rkd_S2 a b o c0 i sn y100 y101 y102 y103 s'111 rk'112 w2'113),bF,bF,bF,bF,bF,bF]) (l:=[_,_,_,_,_,_,_,_,_,_,_,_,_,_,_,_,_,_,_,_,_,_,_,_,_,_,_,_,_,_,_,((tableM c0).flatten.map intP)[((((i:Int)-(1:Int)).toNat*4)+1)]? = some (intP y106),_,_,0≤((i:Int)-(1:Int))∧((i:Int)-(1:Int))<(((tableM c0).length:Nat):Int)∧(((i:Int)-(1:Int)).toNat*4)<((tableM c0).flatten.map intP).length,_,_,_,_,_,_,_,_,_,((tableM c0).flatten.map intP)[((((i:Int)-(1:Int)).toNat*4)+1)]? = some (intP y106),_,_,0≤((i:Int)-(1:Int))∧((i:Int)-(1:Int))<(((tableM c0).length:Nat):Int)∧(((i:Int)-(1:Int)).toNat*4)<((tableM c0).flatten.map intP).length,_,_,_,_,_,_,_,_,false=false,false=false,((totalsM c0).map intP)[(y100.toNat*1)]? = some (intP x104),false=false,_,false=false,false=false,false=false,false=false,false=false,false=false,_,_,_,_,_,_,_,_,_,_,_,_,_,_,_,0≤(i:Int)∧(i:Int)<(((tableM c0).length:Nat):Int)∧(i*4)<((tableM c0).flatten.map intP).length,_]) (by kernel_rfl) (gc h20 (gc (q_neF h19) (gc (q_neF h18) (gc (q_neF h18) (gc (q_neF h18) (gc (q_neF h18) (gc (q_neF h18) (gc hl17.code (gc hl16.code (gc h6 (gc h5 (gc (q_neF h9) (gc (q_lt h10) (gc (q_neF h9) (gc (q_ltF h14) (gc (q_lt h10) (gc (q_ne h15) (gc (q_ltF h14) (gc (q_ne h15) (gc (q_ne h15) (gc (q_ne h15) (gc (q_ne h15) (gc (q_ne h15) (gc (q_ne h15) (gc (q_ne h15) (gc (q_ne h15) (gc (q_ne h15) (gc (q_ltF h14) (gc (q_ltF h14) (gc (q_ltF h14) (gc (q_ltF h14) (gc (fl_field (i:=((i:Int)-(1:Int)).toNat) (f:=1) h2 h12 rfl) (gc (q_ltF h14) (gc (q_ltF h14) (gc (ix_fl (k:=4) (i:=((i:Int)-(1:Int))) (by decide) h2 h13 h12) (gc (q_ltF h14) (gc h11 (gc (q_ltF h14) (gc (q_ltF h14) (gc (q_ltF h14) (gc (q_lt h10) (gc (q_lt h10) (gc (q_lt h10) (gc (q_lt h10) (gc (fl_field (i:=((i:Int)-(1:Int)).toNat) (f:=1) h2 h12 rfl) (gc (q_lt h10) (gc (q_lt h10) (gc (ix_fl (k:=4) (i:=((i:Int)-(1:Int))) (by decide) h2 h13 h12) (gc (q_lt h10) (gc h11 (gc (q_lt h10) (gc (q_lt h10) (gc (q_lt h10) (gc (q_neF h9) (gc (q_neF h9) (gc (q_neF h9) (gc rfl (gc rfl (gc (at_map (i:=y100.toNat) h7) (gc rfl (gc (ix_map (g:=intP) h8 h7) (gc rfl (gc rfl (gc rfl (gc rfl (gc rfl (gc rfl (gc (q_leF h4) (gc h6 (gc h5 (gc (q_leF h4) (gc (q_leF h4) (gc (q_leF h4) (gc (q_leF h4) (gc (q_ltF h3) (gc (q_ltF h3) (gc (q_ltF h3) (gc (q_ltF h3) (gc (q_ltF h3) (gc (q_ltF h3) (gc (fl_load (i:=i) h2 h1) (gc (fl_le (i:=i) h2 h1) (gc (ix_fl (k:=4) (i:=(i:Int)) (by decide) h2 (Int.natCast_nonneg _) h1) (gc (q_lt h0) gn))))))))))))))))))))))))))))))))))))))))))))))))))))))))))))))))))))))))))))))))))))
  exact raw.cast (by rw [esn'e,esn'k])
theorem rkd_L0_p13{a b o:Int}{c0:Cup}{i:Nat}{sn:List Int}{y100 y101 y102 y103 x104:Int}{j'105:Nat}{wn'106:Int}{s'107:Nat}{rk'108 w2'109:Int}{i':Nat}{sn':List Int}(h0:(i:Int)<(((tableM c0).length:Nat):Int))(h1:(tableM c0)[i]? = some [y100,y101,y102,y103])(h2:uni 4 (tableM c0))(h3:(0:Int)≤y100)(h4:y100<c0.sk)(h5:KeysOK .i64 (seenE sn) (.int .i64 y100))(h6:(hitB (seenE sn) (.int .i64 y100))=false)(h7:(totalsM c0)[y100.toNat]? = some x104)(h8:0≤y100)(h9:y102=x104)(h10:(i:Int)≤(0:Int))(hl11:LoopOK Tryz.prog 0 zU15c2 (rkd_S1 a b o c0 i sn y100 y101 y102 y103 0 (0:Int)) (.exit 2) (rkd_S1 a b o c0 i sn y100 y101 y102 y103 j'105 wn'106))(hl12:LoopOK Tryz.prog 0 zU15c1 (rkd_S2 a b o c0 i sn y100 y101 y102 y103 0 (1:Int) wn'106) (.exit 4) (rkd_S2 a b o c0 i sn y100 y101 y102 y103 s'107 rk'108 w2'109))(h13:y103=w2'109)(h14:y101=rk'108)(h15:inR (((i+1):Nat):Int))(ei':i'=(i+1))(esn'e:seenE sn'=((seenE sn)++[((.int .i64 y100),(blP true))]))(esn'k:sn'.length=(sn.length+1)):CodeOK Tryz.prog 0 zU15c0 (rkd_S0 a b o c0 i (seenE sn) sn.length) .normal (rkd_S0 a b o c0 i' (seenE sn') sn'.length):=by
  subst ei'
  have raw:CodeOK Tryz.prog 0 zU15c0 (rkd_S0 a b o c0 i (seenE sn) sn.length) .normal (rkd_S0 a b o c0 (i+1) ((seenE sn)++[((.int .i64 y100),(blP true))]) (sn.length+1)):=CodeOK.fin (g:=⟨(rng [(0,1),(4,5),(15,9),(33,34),(70,147)]),[0,1],[],[]⟩) (o:=[bT,.x (.agg [(intP y100),(intP y101),(intP y102),(intP y103)]),bF,bF,bF,bF,bF,bF,bF,bF,bF,bF,bF,bF,bF,bF,bF,bF,bF,bF,bF,.x (intP x104),bF,bF,bF,bF,bF,bF,bF,bF,bF,bF,bF,bF,bF,bF,bF,bF,bF,bF,bF,bF,.k 6 ⟨(rng [(0,1),(4,4),(15,1),(19,2),(33,34),(70,67),(144,12)]),[0,1,2],[],[]⟩ (.exit 2) (rkd_S1 a b o c0 i sn y100 y101 y102 y103 j'105 wn'106),.k 4 ⟨(rng [(0,1),(4,5),(15,1),(19,1),(21,3),(33,34),(70,74),(159,47)]),[0,1,2],[],[]⟩ (.exit 4) (rkd_S2 a b o c0 i sn y100 y101 y102 y103 s'107 rk'108 w2'109),bF,bF,bF,bF,bF,bF]) (l:=[_,_,_,_,_,_,_,_,_,_,_,_,_,_,_,_,_,_,_,_,_,_,_,_,_,_,_,_,false=false,false=false,((totalsM c0).map intP)[(y100.toNat*1)]? = some (intP x104),false=false,_,false=false,false=false,false=false,false=false,false=false,false=false,_,_,_,_,_,_,_,_,_,_,_,_,_,_,_,0≤(i:Int)∧(i:Int)<(((tableM c0).length:Nat):Int)∧(i*4)<((tableM c0).flatten.map intP).length,_]) (by kernel_rfl) (gc h15 (gc (q_neF h14) (gc (q_neF h13) (gc (q_neF h13) (gc (q_neF h13) (gc (q_neF h13) (gc (q_neF h13) (gc hl12.code (gc hl11.code (gc h6 (gc h5 (gc (q_neF h9) (gc (q_ltF h10) (gc (q_neF h9) (gc (q_ltF h10) (gc (q_ltF h10) (gc (q_ltF h10) (gc (q_ltF h10) (gc (q_ltF h10) (gc (q_ltF h10) (gc (q_ltF h10) (gc (q_ltF h10) (gc (q_ltF h10) (gc (q_ltF h10) (gc (q_ltF h10) (gc (q_neF h9) (gc (q_neF h9) (gc (q_neF h9) (gc rfl (gc rfl (gc (at_map (i:=y100.toNat) h7) (gc rfl (gc (ix_map (g:=intP) h8 h7) (gc rfl (gc rfl (gc rfl (gc rfl (gc rfl (gc rfl (gc (q_leF h4) (gc h6 (gc h5 (gc (q_leF h4) (gc (q_leF h4) (gc (q_leF h4) (gc (q_leF h4) (gc (q_ltF h3) (gc (q_ltF h3) (gc (q_ltF h3) (gc (q_ltF h3) (gc (q_ltF h3) (gc (q_ltF h3) (gc (fl_load (i:=i) h2 h1) (gc (fl_le (i:=i) h2 h1) (gc (ix_fl (k:=4) (i:=(i:Int)) (by decide) h2 (Int.natCast_nonneg _) h1) (gc (q_lt h0) gn))))))))))))))))))))))))))))))))))))))))))))))))))))))))
  exact raw.cast (by rw [esn'e,esn'k])
theorem rkd_L0_p14{a b o:Int}{c0:Cup}{i:Nat}{sn:List Int}(h0:(((tableM c0).length:Nat):Int)≤(i:Int)):CodeOK Tryz.prog 0 zU15c0 (rkd_S0 a b o c0 i (seenE sn) sn.length) (.exit 0) (rkd_S0 a b o c0 i (seenE sn) sn.length):=by
  exact CodeOK.fin (g:=⟨(rng [(0,1),(4,5),(15,9),(33,34),(70,147)]),[0,1],[],[]⟩) (o:=[bF]) (l:=[_]) (by kernel_rfl) (gc (q_ltF h0) gn)
theorem rkd_L1_p0{a b o:Int}{c0:Cup}{i:Nat}{sn:List Int}{y100 y101 y102 y103:Int}{j:Nat}{wn:Int}{x200:List Int}{x201:Int}{j':Nat}{wn':Int}(h0:(j:Int)<(c0.done.length:Int))(h1:c0.done[j]? = some x200)(h2:x200[y100.toNat]? = some x201)(h3:0≤y100)(h4:x201=(1:Int))(h5:inR (wn+(1:Int)))(h6:inR (((j+1):Nat):Int))(ej':j'=(j+1))(ewn':wn'=(wn+(1:Int))):CodeOK Tryz.prog 0 zU15c2 (rkd_S1 a b o c0 i sn y100 y101 y102 y103 j wn) .normal (rkd_S1 a b o c0 i sn y100 y101 y102 y103 j' wn'):=by
  subst ej' ewn'
  exact CodeOK.fin (g:=⟨(rng [(0,1),(4,4),(15,1),(19,2),(33,34),(70,67),(144,12)]),[0,1,2],[],[]⟩) (o:=[bT,.x (intsP x200),.x (intP x201),bT]) (l:=[_,_,_,(x200.map intP)[(y100.toNat*1)]? = some (intP x201),_,_,_,_]) (by kernel_rfl) (gc h6 (gc h5 (gc (q_eq h4) (gc (at_map (i:=y100.toNat) h2) (gc (ix_map (g:=intP) h3 h2) (gc (atm intsP h1) (gc (ixn intsP h1) (gc (q_lt h0) gn))))))))
theorem rkd_L1_p1{a b o:Int}{c0:Cup}{i:Nat}{sn:List Int}{y100 y101 y102 y103:Int}{j:Nat}{wn:Int}{x200:List Int}{x201:Int}{j':Nat}(h0:(j:Int)<(c0.done.length:Int))(h1:c0.done[j]? = some x200)(h2:x200[y100.toNat]? = some x201)(h3:0≤y100)(h4:x201≠(1:Int))(h5:inR (((j+1):Nat):Int))(ej':j'=(j+1)):CodeOK Tryz.prog 0 zU15c2 (rkd_S1 a b o c0 i sn y100 y101 y102 y103 j wn) .normal (rkd_S1 a b o c0 i sn y100 y101 y102 y103 j' wn):=by
  subst ej'
  exact CodeOK.fin (g:=⟨(rng [(0,1),(4,4),(15,1),(19,2),(33,34),(70,67),(144,12)]),[0,1,2],[],[]⟩) (o:=[bT,.x (intsP x200),.x (intP x201),bF]) (l:=[_,_,(x200.map intP)[(y100.toNat*1)]? = some (intP x201),_,_,_,_]) (by kernel_rfl) (gc h5 (gc (q_ne h4) (gc (at_map (i:=y100.toNat) h2) (gc (ix_map (g:=intP) h3 h2) (gc (atm intsP h1) (gc (ixn intsP h1) (gc (q_lt h0) gn)))))))
theorem rkd_L1_p2{a b o:Int}{c0:Cup}{i:Nat}{sn:List Int}{y100 y101 y102 y103:Int}{j:Nat}{wn:Int}(h0:(c0.done.length:Int)≤(j:Int)):CodeOK Tryz.prog 0 zU15c2 (rkd_S1 a b o c0 i sn y100 y101 y102 y103 j wn) (.exit 2) (rkd_S1 a b o c0 i sn y100 y101 y102 y103 j wn):=by
  exact CodeOK.fin (g:=⟨(rng [(0,1),(4,4),(15,1),(19,2),(33,34),(70,67),(144,12)]),[0,1,2],[],[]⟩) (o:=[bF]) (l:=[_]) (by kernel_rfl) (gc (q_ltF h0) gn)
theorem rkd_L2_p3{a b o:Int}{c0:Cup}{i:Nat}{sn:List Int}{y100 y101 y102 y103:Int}{s:Nat}{rk w2 x300 x301:Int}{s':Nat}{rk':Int}(h0:(s:Int)<c0.sk)(h1:KL.Valid c0)(h2:0≤(s:Int)∧(s:Int)<c0.sk)(h3:0≤y100∧y100<c0.sk)(h4:(totalsM c0)[s]? = some x300)(h5:(totalsM c0)[y100.toNat]? = some x301)(h6:0≤y100)(h7:x301<x300)(h8:(betS c0 (s:Int).toNat y100.toNat)=true)(h9:x301≤x300)(h10:inR (rk+(1:Int)))(h11:inR (((s+1):Nat):Int))(es':s'=(s+1))(erk':rk'=(rk+(1:Int))):CodeOK Tryz.prog 0 zU15c1 (rkd_S2 a b o c0 i sn y100 y101 y102 y103 s rk w2) .normal (rkd_S2 a b o c0 i sn y100 y101 y102 y103 s' rk' w2):=by
  subst es' erk'
  exact CodeOK.fin (g:=⟨(rng [(0,1),(4,5),(15,1),(19,1),(21,3),(33,34),(70,74),(159,47)]),[0,1,2],[],[]⟩) (o:=[bT,.c (.tup [(.p (blP (betS c0 (s:Int).toNat y100.toNat))),(.p (intP 0))]) [],bF,bF,bF,bF,.x (intP x300),bF,bF,bF,bF,bF,.x (intP x301),bF,bF,bT,bT,bF,bT,bF,bF,bF,bF,bF,.x (intP x300),bF,bF,bF,bF,bF,.x (intP x301),bF,bF,bF,bF,bF,bF,bT]) (l:=[_,_,_,_,_,_,_,_,_,((totalsM c0).map intP)[(y100.toNat*1)]? = some (intP x301),_,_,_,_,_,_,_,_,_,_,_,_,_,_,_,_,_,_,_,((totalsM c0).map intP)[(y100.toNat*1)]? = some (intP x301),_,_,_,_,_,_,_,_,_,_,_,_,_,_]) (by kernel_rfl) (gc h11 (gc h10 (gc h8 (gc (q_notF h8) (gc (q_ltF h9) (gc (q_notF h8) (gc (q_ltF h9) (gc (q_notF h8) (gc (q_notF h8) (gc (at_map (i:=y100.toNat) h5) (gc (q_notF h8) (gc (ix_map (g:=intP) h6 h5) (gc (q_notF h8) (gc (q_notF h8) (gc (q_notF h8) (gc (q_notF h8) (gc (atm intP h4) (gc (q_notF h8) (gc (ixn intP h4) (gc (q_notF h8) (gc (q_notF h8) (gc (q_notF h8) (gc zU15q0 (gc (q_lt h7) (gc zU15q0 (gc (q_lt h7) (gc (q_lt h7) (gc zU15q0 (gc zU15q0 (gc (at_map (i:=y100.toNat) h5) (gc zU15q0 (gc (ix_map (g:=intP) h6 h5) (gc zU15q0 (gc zU15q0 (gc zU15q0 (gc zU15q0 (gc (atm intP h4) (gc zU15q0 (gc (ixn intP h4) (gc zU15q0 (gc zU15q0 (gc zU15q0 (gc (fk 3 (better3_ok c0 h1 (s:Int) y100 h2 h3) rfl) (gc (q_lt h0) gn))))))))))))))))))))))))))))))))))))))))))))
theorem rkd_L2_p6{a b o:Int}{c0:Cup}{i:Nat}{sn:List Int}{y100 y101 y102 y103:Int}{s:Nat}{rk w2 x300 x301:Int}{s':Nat}(h0:(s:Int)<c0.sk)(h1:KL.Valid c0)(h2:0≤(s:Int)∧(s:Int)<c0.sk)(h3:0≤y100∧y100<c0.sk)(h4:(totalsM c0)[s]? = some x300)(h5:(totalsM c0)[y100.toNat]? = some x301)(h6:0≤y100)(h7:x300≤x301)(h8:x300<x301)(h9:(betS c0 (s:Int).toNat y100.toNat)=false)(h10:inR (((s+1):Nat):Int))(es':s'=(s+1)):CodeOK Tryz.prog 0 zU15c1 (rkd_S2 a b o c0 i sn y100 y101 y102 y103 s rk w2) .normal (rkd_S2 a b o c0 i sn y100 y101 y102 y103 s' rk w2):=by
  subst es'
  exact CodeOK.fin (g:=⟨(rng [(0,1),(4,5),(15,1),(19,1),(21,3),(33,34),(70,74),(159,47)]),[0,1,2],[],[]⟩) (o:=[bT,.c (.tup [(.p (blP (betS c0 (s:Int).toNat y100.toNat))),(.p (intP 0))]) [],bF,bF,bF,bF,.x (intP x300),bF,bF,bF,bF,bF,.x (intP x301),bF,bF,bF,bF,bF,bF,bF,.x (intP x300),.x (intP x301),bT,bT,bF,bF]) (l:=[_,_,_,_,_,((totalsM c0).map intP)[(y100.toNat*1)]? = some (intP x301),_,_,_,_,_,_,_,_,_,_,((totalsM c0).map intP)[(y100.toNat*1)]? = some (intP x301),_,_,_,_,_,_,_,_,_,_,_,_,_,_]) (by kernel_rfl) (gc h10 (gc h9 (gc h9 (gc (q_lt h8) (gc (q_lt h8) (gc (at_map (i:=y100.toNat) h5) (gc (ix_map (g:=intP) h6 h5) (gc (atm intP h4) (gc (ixn intP h4) (gc zU15q0 (gc (q_ltF h7) (gc zU15q0 (gc (q_ltF h7) (gc (q_ltF h7) (gc zU15q0 (gc zU15q0 (gc (at_map (i:=y100.toNat) h5) (gc zU15q0 (gc (ix_map (g:=intP) h6 h5) (gc zU15q0 (gc zU15q0 (gc zU15q0 (gc zU15q0 (gc (atm intP h4) (gc zU15q0 (gc (ixn intP h4) (gc zU15q0 (gc zU15q0 (gc zU15q0 (gc (fk 3 (better3_ok c0 h1 (s:Int) y100 h2 h3) rfl) (gc (q_lt h0) gn)))))))))))))))))))))))))))))))
theorem rkd_L2_p7{a b o:Int}{c0:Cup}{i:Nat}{sn:List Int}{y100 y101 y102 y103:Int}{s:Nat}{rk w2 x300 x301:Int}{s':Nat}{rk':Int}(h0:(s:Int)<c0.sk)(h1:KL.Valid c0)(h2:0≤(s:Int)∧(s:Int)<c0.sk)(h3:0≤y100∧y100<c0.sk)(h4:(totalsM c0)[s]? = some x300)(h5:(totalsM c0)[y100.toNat]? = some x301)(h6:0≤y100)(h7:x300≤x301)(h8:x301≤x300)(h9:(betS c0 (s:Int).toNat y100.toNat)=true)(h10:inR (rk+(1:Int)))(h11:inR (((s+1):Nat):Int))(es':s'=(s+1))(erk':rk'=(rk+(1:Int))):CodeOK Tryz.prog 0 zU15c1 (rkd_S2 a b o c0 i sn y100 y101 y102 y103 s rk w2) .normal (rkd_S2 a b o c0 i sn y100 y101 y102 y103 s' rk' w2):=by
  subst es' erk'
  exact CodeOK.fin (g:=⟨(rng [(0,1),(4,5),(15,1),(19,1),(21,3),(33,34),(70,74),(159,47)]),[0,1,2],[],[]⟩) (o:=[bT,.c (.tup [(.p (blP (betS c0 (s:Int).toNat y100.toNat))),(.p (intP 0))]) [],bF,bF,bF,bF,.x (intP x300),bF,bF,bF,bF,bF,.x (intP x301),bF,bF,bF,bF,bF,bF,bF,.x (intP x300),.x (intP x301),bF,bF,bT]) (l:=[_,_,_,_,_,((totalsM c0).map intP)[(y100.toNat*1)]? = some (intP x301),_,_,_,_,_,_,_,_,_,_,((totalsM c0).map intP)[(y100.toNat*1)]? = some (intP x301),_,_,_,_,_,_,_,_,_,_,_,_,_,_]) (by kernel_rfl) (gc h11 (gc h10 (gc h9 (gc (q_ltF h8) (gc (q_ltF h8) (gc (at_map (i:=y100.toNat) h5) (gc (ix_map (g:=intP) h6 h5) (gc (atm intP h4) (gc (ixn intP h4) (gc zU15q0 (gc (q_ltF h7) (gc zU15q0 (gc (q_ltF h7) (gc (q_ltF h7) (gc zU15q0 (gc zU15q0 (gc (at_map (i:=y100.toNat) h5) (gc zU15q0 (gc (ix_map (g:=intP) h6 h5) (gc zU15q0 (gc zU15q0 (gc zU15q0 (gc zU15q0 (gc (atm intP h4) (gc zU15q0 (gc (ixn intP h4) (gc zU15q0 (gc zU15q0 (gc zU15q0 (gc (fk 3 (better3_ok c0 h1 (s:Int) y100 h2 h3) rfl) (gc (q_lt h0) gn)))))))))))))))))))))))))))))))
theorem rkd_L2_p8{a b o:Int}{c0:Cup}{i:Nat}{sn:List Int}{y100 y101 y102 y103:Int}{s:Nat}{rk w2 x300 x301:Int}{s':Nat}(h0:(s:Int)<c0.sk)(h1:KL.Valid c0)(h2:0≤(s:Int)∧(s:Int)<c0.sk)(h3:0≤y100∧y100<c0.sk)(h4:(totalsM c0)[s]? = some x300)(h5:(totalsM c0)[y100.toNat]? = some x301)(h6:0≤y100)(h7:x300≤x301)(h8:x301≤x300)(h9:(betS c0 (s:Int).toNat y100.toNat)=false)(h10:inR (((s+1):Nat):Int))(es':s'=(s+1)):CodeOK Tryz.prog 0 zU15c1 (rkd_S2 a b o c0 i sn y100 y101 y102 y103 s rk w2) .normal (rkd_S2 a b o c0 i sn y100 y101 y102 y103 s' rk w2):=by
  subst es'
  exact CodeOK.fin (g:=⟨(rng [(0,1),(4,5),(15,1),(19,1),(21,3),(33,34),(70,74),(159,47)]),[0,1,2],[],[]⟩) (o:=[bT,.c (.tup [(.p (blP (betS c0 (s:Int).toNat y100.toNat))),(.p (intP 0))]) [],bF,bF,bF,bF,.x (intP x300),bF,bF,bF,bF,bF,.x (intP x301),bF,bF,bF,bF,bF,bF,bF,.x (intP x300),.x (intP x301),bF,bF,bF]) (l:=[_,_,_,_,((totalsM c0).map intP)[(y100.toNat*1)]? = some (intP x301),_,_,_,_,_,_,_,_,_,_,((totalsM c0).map intP)[(y100.toNat*1)]? = some (intP x301),_,_,_,_,_,_,_,_,_,_,_,_,_,_]) (by kernel_rfl) (gc h10 (gc h9 (gc (q_ltF h8) (gc (q_ltF h8) (gc (at_map (i:=y100.toNat) h5) (gc (ix_map (g:=intP) h6 h5) (gc (atm intP h4) (gc (ixn intP h4) (gc zU15q0 (gc (q_ltF h7) (gc zU15q0 (gc (q_ltF h7) (gc (q_ltF h7) (gc zU15q0 (gc zU15q0 (gc (at_map (i:=y100.toNat) h5) (gc zU15q0 (gc (ix_map (g:=intP) h6 h5) (gc zU15q0 (gc zU15q0 (gc zU15q0 (gc zU15q0 (gc (atm intP h4) (gc zU15q0 (gc (ixn intP h4) (gc zU15q0 (gc zU15q0 (gc zU15q0 (gc (fk 3 (better3_ok c0 h1 (s:Int) y100 h2 h3) rfl) (gc (q_lt h0) gn))))))))))))))))))))))))))))))
theorem rkd_L2_p9{a b o:Int}{c0:Cup}{i:Nat}{sn:List Int}{y100 y101 y102 y103:Int}{s:Nat}{rk w2:Int}(h0:c0.sk≤(s:Int)):CodeOK Tryz.prog 0 zU15c1 (rkd_S2 a b o c0 i sn y100 y101 y102 y103 s rk w2) (.exit 4) (rkd_S2 a b o c0 i sn y100 y101 y102 y103 s rk w2):=by
  exact CodeOK.fin (g:=⟨(rng [(0,1),(4,5),(15,1),(19,1),(21,3),(33,34),(70,74),(159,47)]),[0,1,2],[],[]⟩) (o:=[bF]) (l:=[_]) (by kernel_rfl) (gc (q_ltF h0) gn)
theorem rkd_wins{a b o:Int}{c:Cup}(hV:KL.Valid c){i:Nat}{sn:List Int}{k:Nat}(hk:(k:Int)<c.sk){r t w:Int}:LoopOK Tryz.prog 0 zU15c2 (rkd_S1 a b o c i sn (k:Int) r t w 0 0) (.exit 2) (rkd_S1 a b o c i sn (k:Int) r t w c.done.length (winsUp c k c.done.length)):=by
  have d1:=hV.dn
  have r2:=hV.ra2
  have h:=LoopOK.count (P:=Tryz.prog) (k:=0) (b:=zU15c2) (e := .exit 2) (R:=rkd_S1 a b o c i sn (k:Int) r t w c.done.length (winsUp c k c.done.length)) c.done.length (fun j=>rkd_S1 a b o c i sn (k:Int) r t w j (winsUp c k j))
    (fun j hj=>by
      have hd:c.done[j]? = some c.done[j]:=List.getElem?_eq_getElem hj
      have hlen:=hV.len _ (List.getElem_mem hj)
      have hx:c.done[j][(k:Int).toNat]? = some (c.done[j].getD k 0):=by
        rw [Int.toNat_natCast,List.getD_eq_getElem?_getD]
        have:k<c.done[j].length:=by omega
        rw [List.getElem?_eq_getElem this];rfl
      have hw:=winsUp_succ (k:=k) hd
      have hb:=winsUp_bd c k j
      by_cases e:c.done[j].getD k 0=1
      · rw [if_pos e] at hw
        exact rkd_L1_p0 (by omega) hd hx (by omega) e (by unfold inR;omega) (inR_nat (by omega)) rfl hw
      · rw [if_neg e,Int.add_zero] at hw
        rw [hw]
        exact rkd_L1_p1 (by omega) hd hx (by omega) e (inR_nat (by omega)) rfl)
    (rkd_L1_p2 (by omega)) (by simp)
  exact h
theorem rkd_rank{a b o:Int}{c:Cup}(hV:KL.Valid c){i:Nat}{sn:List Int}{k:Nat}(hk:(k:Int)<c.sk){r t w:Int}{w2:Int}:LoopOK Tryz.prog 0 zU15c1 (rkd_S2 a b o c i sn (k:Int) r t w 0 1 w2) (.exit 4) (rkd_S2 a b o c i sn (k:Int) r t w c.sk.toNat (bttrUp c k c.sk.toNat) w2):=by
  have s1:=hV.sk1
  have s2:=hV.sk2
  have h:=LoopOK.count (P:=Tryz.prog) (k:=0) (b:=zU15c1) (e := .exit 4) (R:=rkd_S2 a b o c i sn (k:Int) r t w c.sk.toNat (bttrUp c k c.sk.toNat) w2) c.sk.toNat (fun s=>rkd_S2 a b o c i sn (k:Int) r t w s (bttrUp c k s) w2)
    (fun s hs=>by
      have hs':(s:Int)<c.sk:=by omega
      have h4:=totals_at hs'
      have h5:(totalsM c)[(k:Int).toNat]? = some (totalM c k):=totals_at hk
      have hb:=bttrUp_bd c k s
      have hu:=bttrUp_succ c k s
      have v1:0≤(s:Int)∧(s:Int)<c.sk:=⟨by omega,hs'⟩
      have v2:0≤(k:Int)∧(k:Int)<c.sk:=⟨by omega,hk⟩
      obtain ⟨q1,q2⟩:=bet_total (c:=c) (x:=s) (y:=k)
      by_cases g1:totalM c k<totalM c s
      · have e:=q1 g1
        rw [if_pos e] at hu
        exact rkd_L2_p3 hs' hV v1 v2 h4 h5 (by omega) g1 e (by omega) (by unfold inR;omega) (inR_nat (by omega)) rfl hu
      · by_cases g2:totalM c s<totalM c k
        · have e:=q2 g2
          rw [if_neg (by rw [e];simp),Int.add_zero] at hu
          rw [hu]
          exact rkd_L2_p6 hs' hV v1 v2 h4 h5 (by omega) (by omega) g2 e (inR_nat (by omega)) rfl
        · cases e:betS c s k with
          | true =>
            rw [if_pos e] at hu
            exact rkd_L2_p7 hs' hV v1 v2 h4 h5 (by omega) (by omega) (by omega) e (by unfold inR;omega) (inR_nat (by omega)) rfl hu
          | false =>
            rw [if_neg (by rw [e];simp),Int.add_zero] at hu
            rw [hu]
            exact rkd_L2_p8 hs' hV v1 v2 h4 h5 (by omega) (by omega) (by omega) e (inR_nat (by omega)) rfl)
    (rkd_L2_p9 (by omega)) (by simp)
  exact h
theorem rkd_lines{a b o:Int}{c:Cup}(hV:KL.Valid c):LoopOK Tryz.prog 0 zU15c0 (rkd_S0 a b o c 0 [] 0) (.exit 0) (rkd_S0 a b o c (tableM c).length (seenE (seenL c (tableM c).length)) (seenL c (tableM c).length).length):=by
  have s1:=hV.sk1
  have s2:=hV.sk2
  have hl:=table_len c
  have hu:uni 4 (tableM c):=tableM_uni c
  have h:=LoopOK.count (P:=Tryz.prog) (k:=0) (b:=zU15c0) (e := .exit 0) (R:=rkd_S0 a b o c (tableM c).length (seenE (seenL c (tableM c).length)) (seenL c (tableM c).length).length) (tableM c).length (fun i=>rkd_S0 a b o c i (seenE (seenL c i)) (seenL c i).length)
    (fun i hi=>by
      obtain ⟨k,hk,hr⟩:=table_row c hi
      have hk':(k:Int)<c.sk:=by omega
      have h5:(totalsM c)[(k:Int).toNat]? = some (totalM c k):=totals_at hk'
      have hK:=seen_keys s2 i hk
      have hh:=seen_hit hr
      have hs:=seen_succ hr
      have e1:seenE (seenL c (i+1))=seenE (seenL c i)++[(.int .i64 (k:Int),blP true)]:=by rw [hs,seenE_snoc]
      have e2:(seenL c (i+1)).length=(seenL c i).length+1:=by rw [hs];simp
      have L1:=rkd_wins (a:=a) (b:=b) (o:=o) hV (i:=i) (sn:=seenL c i) hk' (r:=rankM c k) (t:=totalM c k) (w:=(placesM c k).getD 1 0)
      have L2:=rkd_rank (a:=a) (b:=b) (o:=o) hV (i:=i) (sn:=seenL c i) hk' (r:=rankM c k) (t:=totalM c k) (w:=(placesM c k).getD 1 0) (w2:=winsUp c k c.done.length)
      by_cases h0:i=0
      · exact rkd_L0_p13 (by omega) hr hu (by omega) hk' hK hh h5 (by omega) rfl (by omega) L1 L2 (wins_all c k) (rank_ref c k) (inR_nat (by omega)) rfl e1 e2
      · obtain ⟨k0,hk0,hr0⟩:=table_row c (show i-1<(tableM c).length by omega)
        have hp:=List.pairwise_iff_getElem.1 (table_pw c) (i-1) i (by omega) hi (by omega)
        have g0:(tableM c)[i-1]'(by omega)=rowT c k0:=by
          have:=List.getElem?_eq_getElem (l:=tableM c) (i:=i-1) (by omega)
          rw [this] at hr0;exact Option.some.inj hr0
        have g1:(tableM c)[i]=rowT c k:=by
          have:=List.getElem?_eq_getElem hi
          rw [this] at hr;exact Option.some.inj hr
        rw [g0,g1] at hp
        have hp2:rankM c k0<rankM c k∨rankM c k0=rankM c k∧(k0:Int)<k:=hp
        have hr0':(tableM c)[((i:Int)-1).toNat]? = some (rowT c k0):=by rw [show ((i:Int)-1).toNat=i-1 by omega];exact hr0
        by_cases g:rankM c k0=rankM c k
        · exact rkd_L0_p7 (by omega) hr hu (by omega) hk' hK hh h5 (by omega) rfl (by omega) (by unfold inR;omega) hr0' (by omega) (by omega) g (by omega) L1 L2 (wins_all c k) (rank_ref c k) (inR_nat (by omega)) rfl e1 e2
        · exact rkd_L0_p10 (by omega) hr hu (by omega) hk' hK hh h5 (by omega) rfl (by omega) (by unfold inR;omega) hr0' (by omega) (by omega) g L1 L2 (wins_all c k) (rank_ref c k) (inR_nat (by omega)) rfl e1 e2)
    (rkd_L0_p14 (by omega)) (by simp)
  exact h
theorem ranked_law(l:List Int)(a b o:Int)(ha:0≤a∧a≤255)(hb:0≤b∧b≤255)(ho:0≤o∧o≤255){base:Nat}:FV Tryz.prog 6 [.p (.sl l.length (l.map byteP)),.p (.v (.int .u8 a)),.p (.v (.int .u8 b)),.p (.v (.int .u8 o))] base (.p (blP true)) []:=by
  have hsp:=madeM_spec 8 8 l 0 17 (by omega) (by omega) (by omega)
  obtain ⟨⟨c,m,t⟩,e⟩:∃ q,q=madeM 8 8 l 0 17:=⟨_,rfl⟩
  rw [← e] at hsp
  obtain ⟨_,hV,_⟩:=hsp
  dsimp only at hV
  have s1:=hV.sk1
  have s2:=hV.sk2
  have bd:∀ x:Int,0≤x→0≤x.tmod c.sk∧x.tmod c.sk<c.sk:=fun x hx=>⟨Int.tmod_nonneg _ hx,Int.tmod_lt_of_pos _ (by omega)⟩
  have hl:=table_len c
  have ht:=totalsM_len c
  have L:=rkd_lines (a:=a) (b:=b) (o:=o) hV
  have ka:=bd a ha.1
  have kb:=bd b hb.1
  have ko:=bd o ho.1
  have ia:inR a:=by unfold inR;omega
  have ib:inR b:=by unfold inR;omega
  have io:inR o:=by unfold inR;omega
  cases p:betS c (a.tmod c.sk).toNat (b.tmod c.sk).toNat with
  | true =>
    have q:=betS_asym p
    cases r:betS c (b.tmod c.sk).toNat (o.tmod c.sk).toNat with
    | true=>exact rkd_p5 (by omega) (by omega) (by omega) e.symm hV rfl (by omega) (by omega) L ia (by omega) ib io ka kb ko p q r (betS_trans p r)
    | false=>exact rkd_p4 (by omega) (by omega) (by omega) e.symm hV rfl (by omega) (by omega) L ia (by omega) ib io ka kb ko p q r
  | false =>
    cases q:betS c (b.tmod c.sk).toNat (a.tmod c.sk).toNat with
    | true=>exact rkd_p8 (by omega) (by omega) (by omega) e.symm hV rfl (by omega) (by omega) L ia (by omega) ib io ka kb ko p q
    | false=>exact rkd_p9 (by omega) (by omega) (by omega) e.symm hV rfl (by omega) (by omega) L ia (by omega) ib io ka kb ko p q (by rw [betS_tie p q];exact beq_self_eq_true _)
end
end KV
end Go.Proofs
