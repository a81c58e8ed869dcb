/- Parts of the proof of JNamed: laws of walks, contracts of functions, plain models. No condition. -/
import Derived.Still
import Derived.Test.YtgehgmllhmfbpaaGreatProg
import Derived.Test.YtgehgmllhmfbpaaGreatPJNamedA
set_option linter.unusedVariables false
set_option linter.unusedSimpArgs false
set_option maxRecDepth 100000
namespace Go.Proofs
namespace KV
section
variable {P:Program} {T:TT} {E:Env} {C C0:Cx} {M M0:Mem} {w w0:World}

theorem pkAt_inv{m:Mem}{id:Nat}{r:Nat × Nat × Nat × List (Nat × List PV)}(h:pkAt m id=some r):m[id]? = some (some (.pk r.1 r.2.1 r.2.2.1 r.2.2.2)):=by
  unfold pkAt at h
  split at h
  · rename_i to ti sz L ho
    cases h
    exact objAt_iff.1 ho
  · cases h
theorem pa_val{id:Nat}{q:PQ}{u:Value}(h:Rep C M w (.pa id q) u){to ti sz:Nat}{L:List (Nat × List PV)}(hk:M[id]? = some (some (.pk to ti sz L))):u=pqV (C.κ id) q:=by
  cases h with
  | pa _ _ _ h0 ha h=>exact h _ hk rfl
theorem pa_rep{id:Nat}{q:PQ}{o:AO}(hk:M[id]? = some (some o)):Rep C M w (.pa id q) (pqV (C.κ id) q) := .pa id q _ (pqV_one _ _) ⟨o,hk⟩ fun _ _ _=>rfl

theorem mem_other(hM:MemOK P C M w){w':World}{b:Nat}(hw:But w w' b)(hb:¬ C.F b)(hb2:∀ (i:Nat) (o:AO),M[i]? = some (some o)→o.live=true→C.ι i≠some b):MemOK P C M w'∧Le C C M M w w':=by
  have hF:∀ k,C.F k→w'.heap[k]? = w.heap[k]? := fun k hk=>hw.heap k fun e=>hb (e ▸ hk)
  have hL:∀ (id:Nat) (o:AO) (k:Nat),M[id]? = some (some o)→o.live=true→C.ι id=some k→w'.heap[k]? = w.heap[k]? := fun id o k h1 h2 h3=>hw.heap k fun e=>hb2 id o h1 h2 (e ▸ h3)
  have hle:Le C C M M w w':=⟨fun _ o h=>⟨o,h⟩,fun _ _ _ _ _ cs h=>⟨cs,h⟩,fun _ o h o' h' hl=>by rw [h] at h';cases h';exact ⟨hl,rfl,rfl⟩,fun _ h=>h,hF⟩
  refine ⟨⟨fun i ty' n cs hm => ?_,fun i ty' cs hm => ?_,fun i es cl hm => ?_,hM.inj,hM.nF,fun b hb=>by rw [hw.size];exact hM.Fs b hb,fun i x b hm hl hb=>by rw [hw.size];exact hM.lt i x b hm hl hb⟩,hle⟩
  · rcases hM.row _ _ _ _ hm with h4 | ⟨b,arr,inf,q0,q1,q2,q3,q4,q5,q6,q7,q8⟩
    · exact .inl h4
    · exact .inr ⟨b,arr,inf,q0,by rw [hL _ _ _ hm rfl q0];exact q1,q2,q3,q4,q5,q6,fun j hj=>(q7 j hj).mono hle.F hle.fz,q8⟩
  · obtain ⟨b,arr,q0,q1,q2,q3,q4⟩:=hM.box _ _ _ hm
    exact ⟨b,arr,q0,by rw [hL _ _ _ hm rfl q0];exact q1,q2,fun j hj=>(q3 j hj).mono hle,q4⟩
  · obtain ⟨b,arr,q0,q1,q2,q3⟩:=hM.mp _ _ _ hm
    refine ⟨b,arr,q0,by rw [hL _ _ _ hm rfl q0];exact q1,q2,fun j hj => ?_⟩
    obtain ⟨en,r1,r2,r3,r4⟩:=q3 j hj
    exact ⟨en,r1,r2,r3,r4.mono hle.F hle.fz⟩
theorem mem_pk(hM:MemOK P C M w){k to ti sz:Nat}{L L':List (Nat × List PV)}(hk:M[k]? = some (some (.pk to ti sz L))) :
    MemOK P C (setAt M k (some (.pk to ti sz L'))) w∧Le C C M (setAt M k (some (.pk to ti sz L'))) w w∧Fr C M w C (setAt M k (some (.pk to ti sz L'))) w:=by
  have hold:∀ (i:Nat) (o1:AO),i≠k→(setAt M k (some (.pk to ti sz L')))[i]? = some (some o1)→M[i]? = some (some o1):=fun i o1 h=>(setAt_other M k i _ o1 (fun e=>h e.symm)).1
  have hnew:∀ (o1:AO),(setAt M k (some (.pk to ti sz L')))[k]? = some (some o1)→o1 = .pk to ti sz L':=fun o1 h=>by rw [setAt_same] at h;cases h;rfl
  have hliv:∀ (i:Nat) (o1:AO),(setAt M k (some (.pk to ti sz L')))[i]? = some (some o1)→o1.live=true→∃ o2,M[i]? = some (some o2)∧o2.live=true:=fun i o1 h hl=>by
    by_cases e:i=k
    · subst e;exact ⟨_,hk,rfl⟩
    · exact ⟨o1,hold i o1 e h,hl⟩
  have hids:∀ (i:Nat) (o:AO),M[i]? = some (some o)→∃ o',(setAt M k (some (.pk to ti sz L')))[i]? = some (some o'):=fun i o h=>by
    by_cases e:i=k
    · subst e;exact ⟨_,setAt_same ..⟩
    · exact ⟨o,(setAt_other M k i _ o (fun e'=>e e'.symm)).2 h⟩
  have hrow:∀ (i:Nat) (o:AO),M[i]? = some (some o)→∀ ty n cs,(setAt M k (some (.pk to ti sz L')))[i]? = some (some (.row ty n cs))→∃ cs',M[i]? = some (some (.row ty n cs')):=fun i o h ty n cs hm=>by
    by_cases e:i=k
    · subst e;cases hnew _ hm
    · exact ⟨cs,hold i _ e hm⟩
  have hl2:∀ (i:Nat) (o:AO),M[i]? = some (some o)→∀ (o':AO),(setAt M k (some (.pk to ti sz L')))[i]? = some (some o')→o'.live=true→o.live=true:=fun i o h o' hm hl=>by
    obtain ⟨o2,h2,h3⟩:=hliv i o' hm hl
    rw [h] at h2;cases h2;exact h3
  have hle:Le C C M (setAt M k (some (.pk to ti sz L'))) w w:=⟨hids,hrow,fun i o h o' hm hl=>⟨hl2 i o h o' hm hl,rfl,rfl⟩,fun _ h=>h,fun _ _=>rfl⟩
  refine ⟨⟨fun i ty' n cs hm => ?_,fun i ty' cs hm => ?_,fun i es cl hm => ?_,fun i i' o1 o2 b h1 l1 h2 l2 e1 e2 => ?_,fun i o b hm hl hb => ?_,hM.Fs,fun i o b hm hl hb => ?_⟩,hle,⟨rfl,rfl,rfl,Nat.le_refl _,fun _ _ _=>rfl,fun i o h=>⟨hids i o h,rfl,rfl⟩,hrow,hl2,fun i o b hm hl hb => ?_,fun _ h=>h,fun _ h => .inl h⟩⟩
  · have e:i≠k:=fun e=>by subst e;cases hnew _ hm
    exact hM.row _ _ _ _ (hold i _ e hm)
  · have e:i≠k:=fun e=>by subst e;cases hnew _ hm
    obtain ⟨b,arr,q0,q1,q2,q3,q4⟩:=hM.box _ _ _ (hold i _ e hm)
    exact ⟨b,arr,q0,q1,q2,fun j hj=>(q3 j hj).mono hle,q4⟩
  · have e:i≠k:=fun e=>by subst e;cases hnew _ hm
    exact hM.mp _ _ _ (hold i _ e hm)
  · obtain ⟨x1,r1,r2⟩:=hliv i o1 h1 l1
    obtain ⟨x2,r3,r4⟩:=hliv i' o2 h2 l2
    exact hM.inj i i' x1 x2 b r1 r2 r3 r4 e1 e2
  · obtain ⟨x1,r1,r2⟩:=hliv i o hm hl
    exact hM.nF i x1 b r1 r2 hb
  · obtain ⟨x1,r1,r2⟩:=hliv i o hm hl
    exact hM.lt i x1 b r1 r2 hb
  · obtain ⟨x1,r1,r2⟩:=hliv i o hm hl
    exact .inr ⟨i,x1,r1,r2,hb⟩

theorem pk_put(hM:MemOK P C M w)(hF:Fr C0 M0 w0 C M w){ds:List Deferred}(hD:MarksOK C0 M0 M C w0 w ds){k to ti sz b:Nat}{L L':List (Nat × List PV)}{w':World}(hk:M[k]? = some (some (.pk to ti sz L)))(hb:PBlk (C.κ k) b)(hw:But w w' b)
    (hnew:PkOK C M w' k to ti sz L'):MemOK P C (setAt M k (some (.pk to ti sz L'))) w'∧Le C C M (setAt M k (some (.pk to ti sz L'))) w w'∧Fr C0 M0 w0 C (setAt M k (some (.pk to ti sz L'))) w'∧MarksOK C0 M0 (setAt M k (some (.pk to ti sz L'))) C w0 w' ds:=by
  obtain ⟨⟨l,a1,a2,a3⟩,hR,hP⟩:=hD
  obtain ⟨q,q0,q1⟩:=hP.1 _ _ _ _ _ hk
  obtain ⟨hblt,arr,ty,hcell⟩:=q.lt hb
  obtain ⟨m1,l1⟩:=mem_other hM hw (q.own b hb).1 (q.own b hb).2
  obtain ⟨m2,l2,f2⟩:=mem_pk (L':=L') m1 hk
  have hfr:Fr C0 M0 w0 C M w':=by
    refine ⟨hw.os.trans hF.os,hw.tape.trans hF.tape,hw.out.trans hF.out,by rw [hw.size];exact hF.size,fun b' hb' hn=>(hw.heap b' fun e => ?_).trans (hF.keep b' hb' hn),hF.ids,hF.row,hF.liv,hF.new,hF.F1,hF.F2⟩
    subst e
    rcases (q1 b' hb).1 with h | ⟨id,o,h1,h2,h3⟩
    · omega
    · exact hn id o h1 h2 h3
  have hold:∀ (i:Nat) (o1:AO),i≠k→(setAt M k (some (.pk to ti sz L')))[i]? = some (some o1)→M[i]? = some (some o1):=fun i o1 h=>(setAt_other M k i _ o1 (fun e=>h e.symm)).1
  have hliv:∀ (i:Nat) (o1:AO),(setAt M k (some (.pk to ti sz L')))[i]? = some (some o1)→o1.live=true→∃ o2,M[i]? = some (some o2)∧o2.live=true:=fun i o1 h hl=>by
    by_cases e:i=k
    · subst e;exact ⟨_,hk,rfl⟩
    · exact ⟨o1,hold i o1 e h,hl⟩
  have hz:∀ c,C.F c→w'.heap[c]? = w.heap[c]? := fun c hc=>hw.heap c fun e=>(q.own b hb).1 (e ▸ hc)
  refine ⟨m2,⟨l2.ids,l2.row,l2.liv,l2.F,hz⟩,hfr.trans f2,⟨l,a1,a2,fun D hd => ?_⟩,fun p hp => ?_,fun id to' ti' sz' L2 hm => ?_,fun id id' to1 ti1 sz1 to2 ti2 sz2 L1 L2 h1 h2 hne c hc => ?_⟩
  · obtain ⟨r1,r2,r3⟩:=a3 D hd
    exact ⟨(hw.heap D fun e=>by subst e;rw [hcell] at r1;cases r1).trans r1,r2,r3⟩
  · obtain ⟨r1,r2,r3,r4,r5⟩:=hR p hp
    refine ⟨(hw.heap p.1 ((q1 b hb).2 p hp)).trans r1,r2,r3,r4,fun i o ho hl => ?_⟩
    obtain ⟨o2,s1,s2⟩:=hliv i o ho hl
    exact r5 i o2 s1 s2
  · by_cases e:id=k
    · subst e
      rw [setAt_same] at hm;cases hm
      refine ⟨hnew.move q.io rfl (fun _ h=>h) (fun _ _=>rfl) fun c hc=>⟨rfl,(q.own c hc).1,fun i o ho hl => ?_⟩,q0,q1⟩
      obtain ⟨o2,s1,s2⟩:=hliv i o ho hl
      exact (q.own c hc).2 i o2 s1 s2
    · have hm':=hold id _ e hm
      obtain ⟨p,p0,p1⟩:=hP.1 _ _ _ _ _ hm'
      refine ⟨p.move p.io rfl (fun _ h=>h) hz fun c hc=>⟨hw.heap c fun e2 => ?_,(p.own c hc).1,fun i o ho hl => ?_⟩,p0,p1⟩
      · subst e2
        exact hP.2 _ _ _ _ _ _ _ _ _ _ hm' hk e c hc hb
      · obtain ⟨o2,s1,s2⟩:=hliv i o ho hl
        exact (p.own c hc).2 i o2 s1 s2
  · have g:∀ (i to ti sz:Nat) (L:List (Nat × List PV)) (to' ti' sz':Nat) (L3:List (Nat × List PV)),(setAt M k (some (.pk to' ti' sz' L3)))[i]? = some (some (.pk to ti sz L))→∃ to1 ti1 sz1 L1,M[i]? = some (some (.pk to1 ti1 sz1 L1)):=fun i to3 ti3 sz3 L3 _ _ _ _ h=>by
      by_cases e:i=k
      · subst e;exact ⟨_,_,_,_,hk⟩
      · exact ⟨_,_,_,_,(setAt_other M k i _ _ (fun e'=>e e'.symm)).1 h⟩
    obtain ⟨_,_,_,_,s1⟩:=g _ _ _ _ _ _ _ _ _ h1
    obtain ⟨_,_,_,_,s2⟩:=g _ _ _ _ _ _ _ _ _ h2
    exact hP.2 _ _ _ _ _ _ _ _ _ _ s1 s2 hne c hc

def UpS(P:Program)(w:World)(S:Value→World→Prop):Result Next→Prop
  | .ok (.value u) w'=>S u w'
  | .ok .skip w'=>∀ u,S u w'
  | .ok (.enter f us) w'=>w'=w∧∀ n,CallsIn Fence.wide n P f us w (fun e w''=>∃ u,e = .returned u∧S u w'')
  | _=>False
theorem ups_value{m:Sem Value}{S:Value→World→Prop}{r:Value}{w':World}(h:m.run P w = .ok r w')(hs:S r w'):UpS P w S ((do pure (Next.value (← m)):Sem Next).run P w):=by
  rw [Sem.run_bind,h,Result.andThen_ok,Sem.run_pure]
  exact hs
theorem sim_fin{C':Cx}{st:St}{a:Act}{o:Oper}{x:AV}{u:Value}{M':Mem}{w':World}(hS:Slots C st.m w st.t a.tmps)(hL:Le C C' st.m M' w w')(m:MemOK P C' M' w')(f:Fr C0 M0 w0 C' M' w')(hD:MarksOK C0 M0 M' C' w0 w' a.defers)(r:Rep C' M' w' x u):Sim P C0 M0 w0 ⟨put st.t o.dst x,M'⟩ (a.put o.dst u) w':=by
  refine ⟨C',(hS.le hL).put r,m,f,?_⟩
  have:(a.put o.dst u).defers=a.defers:=by unfold Act.put;split <;> rfl
  rw [this]
  exact hD

theorem run_loadAt{t b off:Nat}{r:Value}(h:(loadVar t ⟨b,off,none⟩).run P w = .ok r w):(Instr.loadAt t (.pointer (some ⟨b,off,none⟩))).run P w = .ok r w:=by
  unfold Instr.loadAt
  rw [Sem.run_bind]
  show ((pure (⟨b,off,none⟩:Addr):Sem Addr).run P w).andThen _=_
  rw [Sem.run_pure,Result.andThen_ok,h]

section
variable {st:St} {a:Act}
theorem pk_at(hD:MarksOK C0 M0 M C w0 w a.defers){k:Nat}{r:Nat × Nat × Nat × List (Nat × List PV)}(h:pkAt M k=some r):PkOK C M w k r.1 r.2.1 r.2.2.1 r.2.2.2:=(hD.2.2.1 _ _ _ _ _ (pkAt_inv h)).1
theorem cellL_inv{L:List (Nat × List PV)}{j i:Nat}{x:PV}(h:cellL L j i=some x):∃ (hj:j<L.length) (hi:i<L[j].2.length),L[j].2[i]=x:=by
  unfold cellL at h
  split at h
  · rename_i r hr
    obtain ⟨hj,rfl⟩:=List.getElem?_eq_some_iff.1 hr
    obtain ⟨hi,e⟩:=List.getElem?_eq_some_iff.1 h
    exact ⟨hj,hi,e⟩
  · cases h
theorem numL_inv{L:List (Nat × List PV)}{j:Nat}{x:PV}(h:numL L j=some x):∃ hj:j<L.length,x = .v (.int .i64 (L[j].1:Int)):=by
  unfold numL at h
  split at h
  · rename_i r hr
    obtain ⟨hj,rfl⟩:=List.getElem?_eq_some_iff.1 hr
    cases h
    exact ⟨hj,rfl⟩
  · cases h
theorem pload_sound(hT:∀ t i,T t=some i→tiOf P t=some i)(hD:MarksOK C0 M0 M C w0 w a.defers){t:Nat}{y x:AV}{u:Value}{L:Upd}{s s':AS}(hy:Rep C M w y u)(h:pload T M t y s=some ((x,L),s'))(g:Good s') :
    Good s∧L=[]∧∃ r,(Instr.loadAt t u).run P w = .ok r w∧Rep C M w x r:=by
  unfold pload at h
  obtain ⟨i,s1,h1,k1⟩:=ask_bind h
  obtain ⟨e1,rfl⟩:=ask_lift h1
  obtain ⟨_,s2,h2,k2⟩:=ask_bind k1
  obtain ⟨e2,rfl⟩:=ask_lift h2
  obtain ⟨hag,_⟩:=ite_some e2
  have hi:=hT _ _ e1
  split at k2
  · rename_i k j
    obtain ⟨r,s3,h3,k3⟩:=ask_bind k2
    obtain ⟨e3,rfl⟩:=ask_lift h3
    obtain ⟨_,s4,h4,k4⟩:=ask_bind k3
    obtain ⟨he,rfl⟩:=ask_pure k4
    cases he
    obtain ⟨hj,g⟩:=ask_P h4 g
    have q:=pk_at hD e3
    obtain rfl:=pa_val hy (pkAt_inv e3)
    have hc:pkC (C.κ k)≠0:=by have:=q.n;have:=q.nc;omega
    obtain ⟨arr,q1,q2,q3⟩:=q.out hc
    refine ⟨g,rfl,_,run_loadAt (run_loadVar_one hi hag (cell_of_heap q1 (by have:=q.n;have:=q.nc;omega))),?_⟩
    rw [q3 j (by rw [q.n];exact hj)]
    exact pa_rep (pkAt_inv e3)
  · rename_i k j c
    obtain ⟨r,s3,h3,k3⟩:=ask_bind k2
    obtain ⟨e3,rfl⟩:=ask_lift h3
    obtain ⟨y,s4,h4,k4⟩:=ask_bind k3
    obtain ⟨he,rfl⟩:=ask_pure k4
    cases he
    obtain ⟨hx,g⟩:=ask_X h4 g
    have q:=pk_at hD e3
    obtain rfl:=pa_val hy (pkAt_inv e3)
    obtain ⟨hj,hc,rfl⟩:=cellL_inv hx
    obtain ⟨p1,p2,p3,arr,p4,p5,p6,p7,p8⟩:=q.row j hj
    have hsz:c<arr.size:=by rw [p5];exact Nat.lt_of_lt_of_le hc (by rw [p6];exact Nat.mul_le_mul_right _ p2)
    exact ⟨g,rfl,_,run_loadAt (run_loadVar_one hi hag (cell_of_heap p4 hsz)),.p _ _ (p7 c hc)⟩
  · exact (ask_fail k2).elim
theorem pindex_sound(hT:∀ t i,T t=some i→tiOf P t=some i)(hD:MarksOK C0 M0 M C w0 w a.defers){t:Nat}{y z x:AV}{u v:Value}{L:Upd}{s s':AS}(hy:Rep C M w y u)(hz:Rep C M w z v)(h:pindex T M t y z s=some ((x,L),s'))(g:Good s') :
    Good s∧L=[]∧∃ r,(Instr.indexAt t u v).run P w = .ok r w∧Rep C M w x r:=by
  unfold pindex at h
  obtain ⟨e,s1,h1,k1⟩:=ask_bind h
  obtain ⟨e1,rfl⟩:=ask_lift h1
  obtain ⟨kn,s2,h2,k2⟩:=ask_bind k1
  obtain ⟨e2,rfl⟩:=ask_lift h2
  obtain ⟨hd,hj⟩:=elemOf_inv hT e1
  obtain rfl:=toI_rep (k:=kn.1) (n:=kn.2) hz e2
  split at k2
  · rename_i k
    obtain ⟨r,s3,h3,k3⟩:=ask_bind k2
    obtain ⟨e3,rfl⟩:=ask_lift h3
    obtain ⟨_,s4,h4,k4⟩:=ask_bind k3
    obtain ⟨e4,rfl⟩:=ask_lift h4
    obtain ⟨hs1,_⟩:=ite_some e4
    obtain ⟨_,s5,h5,k5⟩:=ask_bind k4
    obtain ⟨he,rfl⟩:=ask_pure k5
    cases he
    obtain ⟨⟨c1,c2⟩,g⟩:=ask_P h5 g
    have q:=pk_at hD e3
    obtain rfl:=pa_val hy (pkAt_inv e3)
    have hc:pkC (C.κ k)≠0:=by have:=q.n;have:=q.nc;omega
    have hv:pqV (C.κ k) .root = .slice (some ⟨pkB (C.κ k),0,none⟩) (pkN (C.κ k)) (pkC (C.κ k)):=by unfold pqV;rw [if_neg hc]
    refine ⟨g,rfl,pqV (C.κ k) (.cell kn.2.toNat),?_,pa_rep (pkAt_inv e3)⟩
    rw [hv,run_indexAt_slice hd hj c1 (by rw [q.n];exact c2),Nat.zero_add,hs1,Nat.mul_one]
    rfl
  · rename_i k j
    obtain ⟨r,s3,h3,k3⟩:=ask_bind k2
    obtain ⟨e3,rfl⟩:=ask_lift h3
    obtain ⟨y,s4,h4,k4⟩:=ask_bind k3
    obtain ⟨n,s5,h5,k5⟩:=ask_bind k4
    obtain ⟨e5,rfl⟩:=ask_lift h5
    obtain ⟨_,s6,h6,k6⟩:=ask_bind k5
    obtain ⟨he,rfl⟩:=ask_pure k6
    cases he
    obtain ⟨⟨c1,c2⟩,g⟩:=ask_P h6 g
    obtain ⟨hx,g⟩:=ask_X h4 g
    have q:=pk_at hD e3
    obtain rfl:=pa_val hy (pkAt_inv e3)
    obtain ⟨hj2,rfl⟩:=numL_inv hx
    obtain ⟨p1,p2,p3,arr,p4,p5,p6,p7,p8⟩:=q.row j hj2
    have hn:n.2=(r.2.2.2[j].1:Int):=by
      have:=toI_rep (C:=C) (M:=M) (w:=w) (k:=n.1) (n:=n.2) (.p _ _ (.v _)) e5
      injection this with _ h2
      exact h2.symm
    refine ⟨g,rfl,pqV (C.κ k) (.elem j (kn.2.toNat*e.2.size)),?_,pa_rep (pkAt_inv e3)⟩
    show (Instr.indexAt t (.slice (some ⟨rkB (C.κ k) j,0,none⟩) (rkN (C.κ k) j) (rkC (C.κ k) j)) _).run P w=_
    rw [run_indexAt_slice hd hj c1 (by rw [p1];omega),Nat.zero_add]
    rfl
  · exact (ask_fail k2).elim
theorem plen_sound(hT:∀ t i,T t=some i→tiOf P t=some i)(hM:MemOK P C M w)(hD:MarksOK C0 M0 M C w0 w a.defers){t:Nat}{ts:Array TypeId}{ty:TypeId}(ht:ts[0]? = some t){y x:AV}{u:Value}{L:Upd}{s s':AS}(hy:Rep C M w y u)(h:plen T M t y s=some ((x,L),s'))(g:Good s') :
    Good s∧L=[]∧∃ r,(Builtin.len_ ts ty #[u]).run P w = .ok r w∧Rep C M w x r:=by
  unfold plen at h
  obtain ⟨e,s1,h1,k1⟩:=ask_bind h
  obtain ⟨e1,rfl⟩:=ask_lift h1
  have key:∀ (p:Option Addr) (n cap:Nat),∃ r,(Builtin.len_ ts ty #[.slice p n cap]).run P w = .ok r w∧r = .int .i64 (n:Int):=fun p n cap=>by
    have hv:vlen T M t (.p (.v (.slice p n cap))) ⟨false,[],[]⟩=some (.p (.v (.int .i64 (n:Int))),⟨false,[],[]⟩):=by
      unfold elemOf at e1
      split at e1
      · rename_i i hi
        split at e1
        · rename_i e' he
          unfold vlen
          show Ask.bind _ _ _=_
          unfold Ask.bind lift
          rw [hi]
          dsimp only
          rw [he]
          rfl
        · cases e1
      · cases e1
    obtain ⟨_,r,r1,r2⟩:=vlen_sound hT hM (ts:=ts) (ty:=ty) ht (.p _ _ (.v (.slice p n cap))) hv (fun p hp=>by simp at hp)
    cases r2 with
    | p _ _ r2=>cases r2;exact ⟨_,r1,rfl⟩
  split at k1
  · rename_i k
    obtain ⟨r,s3,h3,k3⟩:=ask_bind k1
    obtain ⟨e3,rfl⟩:=ask_lift h3
    obtain ⟨he,rfl⟩:=ask_pure k3
    cases he
    have q:=pk_at hD e3
    obtain rfl:=pa_val hy (pkAt_inv e3)
    refine ⟨g,rfl,?_⟩
    by_cases hc:pkC (C.κ k)=0
    · have hv:pqV (C.κ k) .root = .slice none 0 0:=by unfold pqV;rw [if_pos hc]
      obtain ⟨r2,r1,rfl⟩:=key none 0 0
      rw [hv]
      refine ⟨_,r1,?_⟩
      have:r.2.2.2.length=0:=by have:=q.n;have:=q.nc;omega
      rw [this];exact .p _ _ (.v _)
    · have hv:pqV (C.κ k) .root = .slice (some ⟨pkB (C.κ k),0,none⟩) (pkN (C.κ k)) (pkC (C.κ k)):=by unfold pqV;rw [if_neg hc]
      obtain ⟨r2,r1,rfl⟩:=key (some ⟨pkB (C.κ k),0,none⟩) (pkN (C.κ k)) (pkC (C.κ k))
      rw [hv]
      refine ⟨_,r1,?_⟩
      rw [q.n];exact .p _ _ (.v _)
  · rename_i k j
    obtain ⟨r,s3,h3,k3⟩:=ask_bind k1
    obtain ⟨e3,rfl⟩:=ask_lift h3
    obtain ⟨y,s4,h4,k4⟩:=ask_bind k3
    obtain ⟨he,rfl⟩:=ask_pure k4
    cases he
    obtain ⟨hx,g⟩:=ask_X h4 g
    have q:=pk_at hD e3
    obtain rfl:=pa_val hy (pkAt_inv e3)
    obtain ⟨hj2,rfl⟩:=numL_inv hx
    obtain ⟨p1,_⟩:=q.row j hj2
    obtain ⟨r2,r1,rfl⟩:=key (some ⟨rkB (C.κ k) j,0,none⟩) (rkN (C.κ k) j) (rkC (C.κ k) j)
    refine ⟨g,rfl,_,r1,?_⟩
    rw [p1];exact .p _ _ (.v _)
  · exact (ask_fail k1).elim
theorem setL_at{L:List (Nat × List PV)}{j c:Nat}{z:PV}(hj:j<L.length):setL L j c z=L.set j (L[j].1,L[j].2.set c z):=by
  unfold setL
  rw [List.getElem?_eq_getElem hj]
theorem pstore_sound(hT:∀ t i,T t=some i→tiOf P t=some i)(hM:MemOK P C M w)(hF:Fr C0 M0 w0 C M w)(hD:MarksOK C0 M0 M C w0 w a.defers){t:Nat}{y z x:AV}{u v:Value}{U:Upd}{s s':AS}(hy:Rep C M w y u)(hz:Rep C M w z v)(h:pstore T M t y z s=some ((x,U),s'))(g:Good s') :
    Good s∧x = .any∧∃ w',(Instr.storeAt t u v).run P w = .ok () w'∧MemOK P C (upds M U) w'∧Le C C M (upds M U) w w'∧Fr C0 M0 w0 C (upds M U) w'∧MarksOK C0 M0 (upds M U) C w0 w' a.defers:=by
  unfold pstore at h
  obtain ⟨i,s1,h1,k1⟩:=ask_bind h
  obtain ⟨e1,rfl⟩:=ask_lift h1
  obtain ⟨_,s2,h2,k2⟩:=ask_bind k1
  obtain ⟨e2,rfl⟩:=ask_lift h2
  obtain ⟨hsz,_⟩:=ite_some e2
  have hi:=hT _ _ e1
  split at k2
  · rename_i k j c
    obtain ⟨r,s3,h3,k3⟩:=ask_bind k2
    obtain ⟨e3,rfl⟩:=ask_lift h3
    obtain ⟨p,s4,h4,k4⟩:=ask_bind k3
    obtain ⟨e4,rfl⟩:=ask_lift h4
    obtain ⟨x0,s5,h5,k5⟩:=ask_bind k4
    obtain ⟨he,rfl⟩:=ask_pure k5
    cases he
    obtain ⟨hx,g⟩:=ask_X h5 g
    refine ⟨g,rfl,?_⟩
    have q:=pk_at hD e3
    have ho:=pkAt_inv e3
    obtain rfl:=pa_val hy ho
    obtain ⟨to,ti,sz,L⟩:=r
    dsimp only at q ho hx ⊢
    obtain ⟨hj,hc,_⟩:=cellL_inv hx
    obtain ⟨p1,p2,p3,arr,p4,p5,p6,p7,p8⟩:=q.row j hj
    have hlt:c<arr.size:=by rw [p5];exact Nat.lt_of_lt_of_le hc (by rw [p6];exact Nat.mul_le_mul_right _ p2)
    obtain ⟨z1,z2⟩:=toPV1_rep hz e4
    have hcl:=one_cells z2
    have hjn:j<pkN (C.κ k):=by rw [q.n];exact hj
    have hb:PBlk (C.κ k) (rkB (C.κ k) j) := .inr ⟨j,hjn,rfl⟩
    have hrs:=run_store (P:=P) (u:=v) (off:=c) hi p4 (by rw [hcl,hsz];rfl) (by omega) (fun j' hj'=>by
        rw [hcl] at hj' ⊢
        obtain rfl:j'=0:=by simpa using hj'
        exact z2)
    obtain ⟨s1,s2⟩:=spliced arr v.cells c (by rw [hcl];show c+1≤_;omega)
    have hbut:=but_setRow w (rkB (C.κ k) j) (arr.toList.take c++v.cells.toList++arr.toList.drop (c+v.cells.toList.length)).toArray
    have hheap:=setRow_heap w (rkB (C.κ k) j) arr (arr.toList.take c++v.cells.toList++arr.toList.drop (c+v.cells.toList.length)).toArray ti _ p4
    have hvs:v.cells.size=1:=by rw [hcl];rfl
    have hget:∀ n,n<arr.size→(arr.toList.take c++v.cells.toList++arr.toList.drop (c+v.cells.toList.length)).toArray.getD n undef=if n=c then v else arr.getD n undef:=fun n hn=>by
      rw [s2 n hn,hvs]
      by_cases e:n=c
      · subst e
        rw [if_neg (by omega),if_pos (by omega),if_pos rfl,Nat.sub_self,hcl];rfl
      · rw [if_neg e]
        split
        · rfl
        · rw [if_neg (by omega)]
    have hz':∀ b,C.F b→(w.setRow (rkB (C.κ k) j) (arr.toList.take c++v.cells.toList++arr.toList.drop (c+v.cells.toList.length)).toArray).heap[b]? = w.heap[b]? := fun b hF'=>hbut.heap b fun e=>(q.own _ hb).1 (e ▸ hF')
    refine ⟨_,hrs,pk_put hM hF hD ho hb hbut ?_⟩
    rw [setL_at hj]
    refine ⟨q.io,by rw [List.length_set];exact q.n,q.nc,q.cm,fun h0 => ?_,fun j' hj' => ?_,fun b hb'=>q.own b hb',q.d1,q.d2⟩
    · obtain ⟨arr2,r1,r2,r3⟩:=q.out h0
      exact ⟨arr2,by rw [hbut.heap _ (Ne.symm (q.d1 h0 j hjn))];exact r1,r2,r3⟩
    · rw [List.length_set] at hj'
      rw [List.getElem_set]
      by_cases e:j=j'
      · subst e
        rw [if_pos rfl]
        refine ⟨p1,p2,p3,_,hheap,by rw [s1];exact p5,by simp only [List.length_set];exact p6,fun n hn => ?_,fun n hn => ?_⟩
        · simp only [List.length_set] at hn
          simp only [List.getElem_set]
          rw [hget n (by rw [p5];exact Nat.lt_of_lt_of_le hn (by rw [p6];exact Nat.mul_le_mul_right _ p2))]
          by_cases e:c=n
          · subst e
            rw [if_pos rfl,if_pos rfl];exact z1.mono (fun _ h=>h) hz'
          · rw [if_neg e,if_neg (Ne.symm e)];exact (p7 n hn).mono (fun _ h=>h) hz'
        · simp only [List.length_set] at hn
          rw [hget n (by rw [p5];exact Nat.lt_of_lt_of_le hn (by rw [p6];exact Nat.mul_le_mul_right _ p2))]
          split
          · exact z2
          · exact p8 n hn
      · rw [if_neg e]
        obtain ⟨r1,r2,r3,arr2,r4,r5,r6,r7,r8⟩:=q.row j' hj'
        exact ⟨r1,r2,r3,arr2,by rw [hbut.heap _ (fun e2=>e (q.d2 _ _ hjn (by rw [q.n];exact hj') e2.symm))];exact r4,r5,r6,fun n hn=>(r7 n hn).mono (fun _ h=>h) hz',r8⟩
  · exact (ask_fail k2).elim
def Cx.pack(C:Cx)(id k:Nat):Cx:={ ι:=fun i=>if i=id then none else C.ι i,κ:=fun i=>if i=id then k else C.κ i,F:=C.F }
theorem pk_final(hM:MemOK P C M w)(hF:Fr C0 M0 w0 C M w){ds:List Deferred}(hD:MarksOK C0 M0 M C w0 w ds){ks:List Nat}{id to ti sz k0:Nat}{L:List (Nat × List PV)}{M':Mem}{w':World}(X:Nat→Prop)(hid:Free M id)
    (hM':∀ (i:Nat) (o:AO),M'[i]? = some (some o)↔(i=id∧o = .pk to ti sz L)∨(i∈ks∧o = .dead)∨(i≠id∧i∉ks∧M[i]? = some (some o)))
    (hos:w'.os=w.os) (htp:w'.tape=w.tape) (hou:w'.output=w.output) (hsz:w.heap.size≤w'.heap.size)
    (hX:∀ b,X b→Fresh0 C0 M0 w0 b∧¬ C.F b∧(∀ (i:Nat) (o:AO),M[i]? = some (some o)→o.live=true→i∉ks→C.ι i≠some b)∧(∀ p∈C0.R,p.1≠b)∧(∃ arr ty,w.heap[b]? = some (.cells arr ty (0,0)))∧∀ (i to ti sz:Nat) (L:List (Nat × List PV)),M[i]? = some (some (.pk to ti sz L))→i∉ks→¬ PBlk (C.κ i) b)
    (hsame:∀ b,b<w.heap.size→¬ X b→w'.heap[b]? = w.heap[b]?)
    (hnew:PkOK (C.pack id k0) M' w' id to ti sz L)
    (hfr:∀ b,PBlk k0 b→Fresh0 C0 M0 w0 b∧(∀ p∈C0.R,p.1≠b)∧∀ (i to ti sz:Nat) (L:List (Nat × List PV)),M[i]? = some (some (.pk to ti sz L))→i∉ks→¬ PBlk (C.κ i) b) :
    Le C (C.pack id k0) M M' w w'∧MemOK P (C.pack id k0) M' w'∧Fr C0 M0 w0 (C.pack id k0) M' w'∧MarksOK C0 M0 M' (C.pack id k0) w0 w' ds:=by
  have hne:∀ (i:Nat) (o:AO),M[i]? = some (some o)→i≠id:=fun i o h e=>hid o (e ▸ h)
  have hι:∀ i,i≠id→(C.pack id k0).ι i=C.ι i:=fun i h=>by simp [Cx.pack,h]
  have hκ:∀ i,i≠id→(C.pack id k0).κ i=C.κ i:=fun i h=>by simp [Cx.pack,h]
  have hιs:(C.pack id k0).ι id=none:=by simp [Cx.pack]
  have hκs:(C.pack id k0).κ id=k0:=by simp [Cx.pack]
  have hliv:∀ (i:Nat) (o:AO),M'[i]? = some (some o)→o.live=true→(i=id∧o = .pk to ti sz L)∨(i≠id∧i∉ks∧M[i]? = some (some o)):=fun i o h hl=>by
    rcases (hM' i o).1 h with h | ⟨_,rfl⟩ | h
    · exact .inl h
    · cases hl
    · exact .inr h
  have hids:∀ (i:Nat) (o:AO),M[i]? = some (some o)→∃ o',M'[i]? = some (some o'):=fun i o h=>by
    by_cases e:i∈ks
    · exact ⟨.dead,(hM' i _).2 (.inr (.inl ⟨e,rfl⟩))⟩
    · exact ⟨o,(hM' i _).2 (.inr (.inr ⟨hne i o h,e,h⟩))⟩
  have hz:∀ b,C.F b→w'.heap[b]? = w.heap[b]? := fun b hb=>hsame b (hM.Fs b hb) fun hx=>(hX b hx).2.1 hb
  have hrow:∀ (i:Nat) (o:AO),M[i]? = some (some o)→∀ ty n cs,M'[i]? = some (some (.row ty n cs))→∃ cs',M[i]? = some (some (.row ty n cs')):=fun i o h ty n cs hm=>by
    rcases hliv i _ hm rfl with ⟨_,e⟩ | ⟨_,_,h2⟩
    · cases e
    · exact ⟨cs,h2⟩
  have hl2:∀ (i:Nat) (o:AO),M[i]? = some (some o)→∀ (o':AO),M'[i]? = some (some o')→o'.live=true→o.live=true∧(C.pack id k0).ι i=C.ι i∧(C.pack id k0).κ i=C.κ i:=fun i o h o' hm hl=>by
    have e:=hne i o h
    rcases hliv i _ hm hl with ⟨e2,_⟩ | ⟨_,_,h2⟩
    · exact absurd e2 e
    · rw [h] at h2;cases h2
      exact ⟨hl,hι i e,hκ i e⟩
  have hle:Le C (C.pack id k0) M M' w w':=⟨hids,hrow,hl2,fun _ h=>h,hz⟩
  have hblk:∀ (i:Nat) (o:AO) (b:Nat),i∉ks→M[i]? = some (some o)→o.live=true→C.ι i=some b→w'.heap[b]? = w.heap[b]? := fun i o b hk h hl hb=>hsame b (hM.lt i o b h hl hb) fun hx=>(hX b hx).2.2.1 i o h hl hk hb
  refine ⟨hle,⟨fun i ty n cs hm => ?_,fun i ty cs hm => ?_,fun i es cl hm => ?_,fun i i' o1 o2 b h1 l1 h2 l2 e1 e2 => ?_,fun i o b hm hl hb => ?_,fun b hb=>Nat.lt_of_lt_of_le (hM.Fs b hb) hsz,fun i o b hm hl hb => ?_⟩,⟨hos.trans hF.os,htp.trans hF.tape,hou.trans hF.out,Nat.le_trans hF.size hsz,fun b hb hn=>(hsame b (Nat.lt_of_lt_of_le hb hF.size) fun hx => ?_).trans (hF.keep b hb hn),fun i o h => ?_,fun i o h ty n cs hm => ?_,fun i o h o' hm hl => ?_,fun i o b hm hl hb => ?_,hF.F1,hF.F2⟩,?_,?_,?_,?_⟩
  · rcases hliv i _ hm rfl with ⟨_,e⟩ | ⟨e,hk,h2⟩
    · cases e
    · rw [hι i e,hκ i e]
      rcases hM.row _ _ _ _ h2 with h4 | ⟨b,arr,inf,q0,q1,q2,q3,q4,q5,q6,q7,q8⟩
      · exact .inl h4
      · exact .inr ⟨b,arr,inf,q0,by rw [hblk i _ b hk h2 rfl q0];exact q1,q2,q3,q4,q5,q6,fun j hj=>(q7 j hj).mono hle.F hle.fz,q8⟩
  · rcases hliv i _ hm rfl with ⟨_,e⟩ | ⟨e,hk,h2⟩
    · cases e
    · rw [hι i e]
      obtain ⟨b,arr,q0,q1,q2,q3,q4⟩:=hM.box _ _ _ h2
      exact ⟨b,arr,q0,by rw [hblk i _ b hk h2 rfl q0];exact q1,q2,fun j hj=>(q3 j hj).mono hle,q4⟩
  · rcases hliv i _ hm rfl with ⟨_,e⟩ | ⟨e,hk,h2⟩
    · cases e
    · rw [hι i e]
      obtain ⟨b,arr,q0,q1,q2,q3⟩:=hM.mp _ _ _ h2
      refine ⟨b,arr,q0,by rw [hblk i _ b hk h2 rfl q0];exact q1,q2,fun j hj => ?_⟩
      obtain ⟨en,r1,r2,r3,r4⟩:=q3 j hj
      exact ⟨en,r1,r2,r3,r4.mono hle.F hle.fz⟩
  · rcases hliv i _ h1 l1 with ⟨rfl,_⟩ | ⟨e,hk,h3⟩
    · rw [hιs] at e1;cases e1
    · rcases hliv i' _ h2 l2 with ⟨rfl,_⟩ | ⟨e',hk',h3'⟩
      · rw [hιs] at e2;cases e2
      · rw [hι i e] at e1;rw [hι i' e'] at e2
        exact hM.inj _ _ _ _ _ h3 l1 h3' l2 e1 e2
  · rcases hliv i _ hm hl with ⟨rfl,_⟩ | ⟨e,hk,h3⟩
    · rw [hιs] at hb;cases hb
    · rw [hι i e] at hb
      exact hM.nF _ _ _ h3 hl hb
  · rcases hliv i _ hm hl with ⟨rfl,_⟩ | ⟨e,hk,h3⟩
    · rw [hιs] at hb;cases hb
    · rw [hι i e] at hb
      exact Nat.lt_of_lt_of_le (hM.lt _ _ _ h3 hl hb) hsz
  · rcases (hX b hx).1 with h | ⟨i,o,h1,h2,h3⟩
    · omega
    · exact hn i o h1 h2 h3
  · obtain ⟨⟨o',r1⟩,r2,r3⟩:=hF.ids i o h
    have e:=hne i o' r1
    exact ⟨hids i o' r1,by rw [hι i e];exact r2,by rw [hκ i e];exact r3⟩
  · rcases hliv i _ hm rfl with ⟨_,e⟩ | ⟨_,_,h2⟩
    · cases e
    · exact hF.row i o h _ _ _ h2
  · obtain ⟨⟨o2,r1⟩,_⟩:=hF.ids i o h
    exact hF.liv i o h o2 r1 (hl2 i o2 r1 o' hm hl).1
  · rcases hliv i _ hm hl with ⟨rfl,_⟩ | ⟨e,hk,h3⟩
    · rw [hιs] at hb;cases hb
    · rw [hι i e] at hb
      exact hF.new i o b h3 hl hb
  · obtain ⟨⟨l,a1,a2,a3⟩,_⟩:=hD
    refine ⟨l,a1,a2,fun D hd => ?_⟩
    obtain ⟨r1,r2,r3⟩:=a3 D hd
    refine ⟨(hsame D (Array.getElem?_eq_some_iff.1 r1).1 fun hx => ?_).trans r1,r2,r3⟩
    obtain ⟨_,_,_,_,⟨arr,ty,q⟩,_⟩:=hX D hx
    rw [q] at r1;cases r1
  · intro p hp
    obtain ⟨r1,r2,r3,r4,r5⟩:=hD.2.1 p hp
    refine ⟨(hsame p.1 (Array.getElem?_eq_some_iff.1 r1).1 fun hx=>(hX _ hx).2.2.2.1 p hp rfl).trans r1,r2,r3,r4,fun i o ho hl => ?_⟩
    rcases hliv i _ ho hl with ⟨rfl,_⟩ | ⟨e,hk,h3⟩
    · rw [hιs];simp
    · rw [hι i e];exact r5 i o h3 hl
  · intro i to' ti' sz' L2 hm
    rcases hliv i _ hm rfl with ⟨rfl,e⟩ | ⟨e,hk,h3⟩
    · cases e
      refine ⟨hnew,fun o ho => ?_,by rw [hκs];exact fun b hb=>⟨(hfr b hb).1,(hfr b hb).2.1⟩⟩
      obtain ⟨⟨o2,r1⟩,_⟩:=hF.ids i o ho
      exact hid o2 r1
    · obtain ⟨q,q0,q1⟩:=hD.2.2.1 _ _ _ _ _ h3
      refine ⟨q.move (by rw [hι i e];exact q.io) (hκ i e) (fun _ h=>h) hz fun b hb=>⟨hsame b (q.lt hb).1 fun hx=>(hX b hx).2.2.2.2.2 _ _ _ _ _ h3 hk hb,(q.own b hb).1,fun i2 o2 ho hl => ?_⟩,q0,by rw [hκ i e];exact q1⟩
      rcases hliv i2 _ ho hl with ⟨rfl,_⟩ | ⟨e2,hk2,h4⟩
      · rw [hιs];simp
      · rw [hι i2 e2];exact (q.own b hb).2 i2 o2 h4 hl
  · intro i i' to1 ti1 sz1 to2 ti2 sz2 L1 L2 h1 h2 hne' b hb hb'
    rcases hliv i _ h1 rfl with ⟨rfl,e⟩ | ⟨e,hk,h3⟩
    · rw [hκs] at hb
      rcases hliv i' _ h2 rfl with ⟨rfl,_⟩ | ⟨e',hk',h3'⟩
      · exact hne' rfl
      · rw [hκ i' e'] at hb'
        exact (hfr b hb).2.2 _ _ _ _ _ h3' hk' hb'
    · rw [hκ i e] at hb
      rcases hliv i' _ h2 rfl with ⟨rfl,_⟩ | ⟨e',hk',h3'⟩
      · rw [hκs] at hb'
        exact (hfr b hb').2.2 _ _ _ _ _ h3 hk hb
      · rw [hκ i' e'] at hb'
        exact hD.2.2.2 _ _ _ _ _ _ _ _ _ _ h3 h3' hne' b hb hb'
def flat3:List (Nat × Nat × Nat)→List Nat
  | []=>[]
  | r::l=>r.1::r.2.1::r.2.2::flat3 l
def lay(bo n cap:Nat)(rows:List (Nat × Nat × Nat)):Nat:=enc (bo::n::cap::flat3 rows)
theorem flat3_at:∀ {rows:List (Nat × Nat × Nat)} {j:Nat} (h:j<rows.length),(flat3 rows).getD (3*j) 0=rows[j].1∧(flat3 rows).getD (3*j+1) 0=rows[j].2.1∧(flat3 rows).getD (3*j+2) 0=rows[j].2.2
  | r::l,0,_=>⟨rfl,rfl,rfl⟩
  | r::l,j+1,h=>by
    have:=flat3_at (rows:=l) (j:=j) (by simpa using h)
    rw [show 3*(j+1)=3*j+1+1+1 by omega,show 3*j+1+1+1+1=(3*j+1)+1+1+1 by omega,show 3*j+1+1+1+2=(3*j+2)+1+1+1 by omega]
    simpa only [flat3,List.getD_cons_succ,List.getElem_cons_succ] using this
section
variable {bo n cap:Nat} {rows:List (Nat × Nat × Nat)}
theorem lay_B:pkB (lay bo n cap rows)=bo:=by simp [pkB,lay,dec_enc]
theorem lay_N:pkN (lay bo n cap rows)=n:=by simp [pkN,lay,dec_enc]
theorem lay_C:pkC (lay bo n cap rows)=cap:=by simp [pkC,lay,dec_enc]
theorem lay_r{j:Nat}(h:j<rows.length):rkB (lay bo n cap rows) j=rows[j].1∧rkN (lay bo n cap rows) j=rows[j].2.1∧rkC (lay bo n cap rows) j=rows[j].2.2:=by
  obtain ⟨h1,h2,h3⟩:=flat3_at h
  unfold rkB rkN rkC lay
  rw [dec_enc]
  refine ⟨?_,?_,?_⟩
  · rw [show 3*j+3=3*j+1+1+1 by omega];simpa only [List.getD_cons_succ] using h1
  · rw [show 3*j+4=(3*j+1)+1+1+1 by omega];simpa only [List.getD_cons_succ] using h2
  · rw [show 3*j+5=(3*j+2)+1+1+1 by omega];simpa only [List.getD_cons_succ] using h3
end

theorem fill_one{u:Value}{z:Value}(h:u.oneCell'=true):Instr.fill (fun i=>some (i*1,1)) ((Array.range (1*1)).map (z.cells[· % z.cells.size]!)) [(0,u)]=some #[u]:=by
  unfold Instr.fill
  have hc:=one_cells h
  simp [hc,Instr.fill]
  apply Array.ext
  · simp
  · intro i h1 h2
    have:i=0:=by simp at h2;omega
    subst this
    simp

theorem pbuild_sound(hT:∀ t i,T t=some i→tiOf P t=some i)(hM:MemOK P C M w)(hF:Fr C0 M0 w0 C M w)(hD:MarksOK C0 M0 M C w0 w a.defers){id t len:Nat}{l:List (Nat × AV)}{k:Array (Nat × Value)}{x:AV}{U:Upd}{s s':AS}(hr:PartsRep C M w l k.toList)(h:pbuild T M id t len l s=some ((x,U),s'))(g:Good s') :
    Good s∧∃ (C':Cx) (w':World) (u:Value),(Instr.buildSlice t len k).run P w = .ok u w'∧Le C C' M (upds M U) w w'∧MemOK P C' (upds M U) w'∧Fr C0 M0 w0 C' (upds M U) w'∧MarksOK C0 M0 (upds M U) C' w0 w' a.defers∧Rep C' (upds M U) w' x u:=by
  unfold pbuild at h
  obtain ⟨e,s1,h1,k1⟩:=ask_bind h
  obtain ⟨e1,rfl⟩:=ask_lift h1
  obtain ⟨f,s2,h2,k2⟩:=ask_bind k1
  obtain ⟨e2,rfl⟩:=ask_lift h2
  obtain ⟨_,s3,h3,k3⟩:=ask_bind k2
  obtain ⟨e3,rfl⟩:=ask_lift h3
  obtain ⟨⟨hf,hs1,hs0⟩,_⟩:=ite_some e3
  replace hf:=freeB_inv hf
  split at k3
  rotate_left
  · exact (ask_fail k3).elim
  rename_i kk
  obtain ⟨r,s4,h4,k4⟩:=ask_bind k3
  obtain ⟨e4,rfl⟩:=ask_lift h4
  obtain ⟨_,s5,h5,k5⟩:=ask_bind k4
  obtain ⟨e5,rfl⟩:=ask_lift h5
  obtain ⟨⟨hrt,hki⟩,_⟩:=ite_some e5
  obtain ⟨_,s6,h6,k6⟩:=ask_bind k5
  obtain ⟨he,rfl⟩:=ask_pure k6
  cases he
  obtain ⟨hn0,g⟩:=ask_P h6 g
  refine ⟨g,?_⟩
  obtain ⟨hd,hj⟩:=elemOf_inv hT e1
  obtain ⟨hd2,hj2⟩:=elemOf_inv hT e2
  obtain ⟨inf,_,z,hinf,_,hzz,_,hsz,hby,hzl,_⟩:=tiOf_inv hj
  obtain ⟨inf2,_,z2,hinf2,_,hzz2,_,hsz2,_⟩:=tiOf_inv hj2
  have ho:=rowAt_inv e4
  obtain ⟨rt,rn,rcs⟩:=r
  dsimp only at hrt hn0 ho ⊢
  subst hrt
  generalize hkl:k.toList=kl at hr
  cases hr with
  | cons _ _ u _ _ hv hr2 =>
  cases hr2
  cases hv with
  | own _ _ u1 ha hrow =>
  rcases hrow _ _ _ ho with ⟨_,_,hn⟩ | ⟨b,rfl,hb⟩
  · omega
  rcases hM.row _ _ _ _ ho with ⟨hn1,_⟩ | ⟨b',arr,inf',hb',q1,q2,q3,q4,q5,q6,q7,q8⟩
  · rw [hb] at hn1;cases hn1
  rw [hb] at hb';cases hb'
  rw [hinf2] at q2;cases q2
  rw [← hsz2] at q3 q4
  have hi1:inf.size=1:=by rw [← hsz];exact hs1
  clear h1 h2 h3 h4 h5 h6 k1 k2 k4 k5 h
  have hrun:=run_build0 (P:=P) (w:=w) t e.1 inf 1 k #[.slice (some ⟨b,0,none⟩) rn (C.κ kk)] z hd hinf hzz (by omega) (by
    rw [hkl,hi1]
    exact fill_one rfl)
  have hblt:=hM.lt _ _ _ ho rfl hb
  have hsz0:=hF.size
  obtain ⟨p1,p2,p3⟩:=heap_push w (.cells #[.slice (some ⟨b,0,none⟩) rn (C.κ kk)] e.1)
  have hM':∀ (i:Nat) (o:AO),(upds M [(kk,.dead),(id,.pk e.1 f.1 f.2.size [(rn,rcs)])])[i]? = some (some o)↔(i=id∧o = .pk e.1 f.1 f.2.size [(rn,rcs)])∨(i∈[kk]∧o = .dead)∨(i≠id∧i∉[kk]∧M[i]? = some (some o)):=fun i o=>by
    simp only [upds,List.mem_singleton]
    by_cases c1:i=id
    · subst c1
      rw [setAt_same]
      constructor
      · intro h;cases h;exact .inl ⟨rfl,rfl⟩
      · rintro (⟨_,rfl⟩ | ⟨h,_⟩ | ⟨h,_⟩)
        · rfl
        · exact absurd h.symm hki
        · exact absurd rfl h
    · rw [setAt_other _ _ _ _ _ (Ne.symm c1)]
      by_cases c2:i=kk
      · subst c2
        rw [setAt_same]
        constructor
        · intro h;cases h;exact .inr (.inl ⟨rfl,rfl⟩)
        · rintro (⟨h,_⟩ | ⟨_,rfl⟩ | ⟨_,h,_⟩)
          · exact absurd h c1
          · rfl
          · exact absurd rfl h
      · rw [setAt_other _ _ _ _ _ (Ne.symm c2)]
        constructor
        · intro h;exact .inr (.inr ⟨c1,c2,h⟩)
        · rintro (⟨h,_⟩ | ⟨h,_⟩ | ⟨_,_,h⟩)
          · exact absurd h c1
          · exact absurd h c2
          · exact h
  have hκ:(C.pack id (lay w.heap.size 1 1 [(b,rn,C.κ kk)])).κ id=lay w.heap.size 1 1 [(b,rn,C.κ kk)]:=by simp [Cx.pack]
  obtain ⟨r1,r2,r3⟩:rkB (lay w.heap.size 1 1 [(b,rn,C.κ kk)]) 0=b∧rkN (lay w.heap.size 1 1 [(b,rn,C.κ kk)]) 0=rn∧rkC (lay w.heap.size 1 1 [(b,rn,C.κ kk)]) 0=C.κ kk:=lay_r (j:=0) (by simp)
  have hpb:∀ c,PBlk (lay w.heap.size 1 1 [(b,rn,C.κ kk)]) c→c=w.heap.size∨c=b:=fun c hc=>by
    rcases hc with ⟨_,h⟩ | ⟨j,hj,h⟩
    · rw [lay_B] at h;exact .inl h
    · rw [lay_N] at hj
      obtain rfl:j=0:=by omega
      rw [r1] at h;exact .inr h
  have hlive:∀ (i:Nat) (o:AO),M[i]? = some (some o)→o.live=true→i≠kk→C.ι i≠some b:=fun i o h hl hne he=>hne (hM.inj _ _ _ _ _ h hl ho rfl he hb)
  have hnew:PkOK (C.pack id (lay w.heap.size 1 1 [(b,rn,C.κ kk)])) (upds M [(kk,.dead),(id,.pk e.1 f.1 f.2.size [(rn,rcs)])]) (w.alloc (.cells #[.slice (some ⟨b,0,none⟩) rn (C.κ kk)] e.1)) id e.1 f.1 f.2.size [(rn,rcs)]:=by
    refine ⟨by simp [Cx.pack],by rw [hκ,lay_N];rfl,by rw [hκ,lay_N,lay_C];exact Nat.le_refl _,by rw [hκ,lay_C];simp [maxLen],fun _ => ?_,fun j hj => ?_,fun c hc => ?_,fun _ j hj => ?_,fun j j' hj hj' _ => ?_⟩
    · rw [hκ,lay_B,lay_C,lay_N]
      refine ⟨_,p2,rfl,fun j hj => ?_⟩
      obtain rfl:j=0:=by omega
      show _=Value.slice _ _ _
      rw [r1,r2,r3];rfl
    · obtain rfl:j=0:=by simpa using hj
      rw [hκ,r1,r2,r3]
      exact ⟨rfl,q5,q6,arr,by rw [p3 b hblt];exact q1,q3,q4,fun i hi=>(q7 i hi).mono (fun _ h=>h) fun c hc=>p3 c (hM.Fs c hc),q8⟩
    · rw [hκ] at hc
      have hF':(C.pack id (lay w.heap.size 1 1 [(b,rn,C.κ kk)])).F=C.F:=rfl
      rw [hF']
      rcases hpb c hc with rfl | rfl
      · refine ⟨fun h=>by have:=hM.Fs _ h;omega,fun i o ho' hl => ?_⟩
        rcases (hM' i o).1 ho' with ⟨rfl,_⟩ | ⟨_,rfl⟩ | ⟨e,_,h⟩
        · simp [Cx.pack]
        · cases hl
        · simp only [Cx.pack,e,if_false]
          exact fun h2=>by have:=hM.lt _ _ _ h hl h2;omega
      · refine ⟨hM.nF _ _ _ ho rfl hb,fun i o ho' hl => ?_⟩
        rcases (hM' i o).1 ho' with ⟨rfl,_⟩ | ⟨_,rfl⟩ | ⟨e,e2,h⟩
        · simp [Cx.pack]
        · cases hl
        · simp only [Cx.pack,e,if_false]
          exact hlive i o h hl (by simpa using e2)
    · rw [hκ,lay_N] at hj
      obtain rfl:j=0:=by omega
      rw [hκ,r1,lay_B];omega
    · rw [hκ,lay_N] at hj hj'
      omega
  have fin:=pk_final (ks:=[kk]) (M':=upds M [(kk,.dead),(id,.pk e.1 f.1 f.2.size [(rn,rcs)])]) (w':=w.alloc (.cells #[.slice (some ⟨b,0,none⟩) rn (C.κ kk)] e.1)) hM hF hD (fun _=>False) hf hM' rfl rfl rfl (by omega) (fun _ h=>h.elim) (fun c hc _=>p3 c hc) hnew (fun c hc => ?_)
  · refine ⟨_,_,_,hrun,fin.1,fin.2.1,fin.2.2.1,fin.2.2.2,?_⟩
    have hrep:=pa_rep (C:=C.pack id (lay w.heap.size 1 1 [(b,rn,C.κ kk)])) (M:=upds M [(kk,.dead),(id,.pk e.1 f.1 f.2.size [(rn,rcs)])]) (w:=w.alloc (.cells #[.slice (some ⟨b,0,none⟩) rn (C.κ kk)] e.1)) (id:=id) (q := .root) ((hM' id _).2 (.inl ⟨rfl,rfl⟩))
    have hv:pqV ((C.pack id (lay w.heap.size 1 1 [(b,rn,C.κ kk)])).κ id) .root = .slice (some ⟨w.heap.size,0,none⟩) 1 1:=by
      rw [hκ]
      unfold pqV
      rw [lay_C,if_neg (by simp),lay_B,lay_N]
    rwa [hv] at hrep
  · rcases hpb c hc with rfl | rfl
    · refine ⟨.inl hsz0,fun p hp e => ?_,fun i to ti sz L hm _ hb' => ?_⟩
      · obtain ⟨r1,_⟩:=hD.2.1 p hp
        have:=(Array.getElem?_eq_some_iff.1 r1).1
        omega
      · have:=((hD.2.2.1 _ _ _ _ _ hm).1.lt hb').1
        omega
    · refine ⟨?_,fun p hp e => ?_,fun i to ti sz L hm _ hb'=>((hD.2.2.1 _ _ _ _ _ hm).1.own _ hb').2 kk _ ho rfl hb⟩
      · exact hF.new _ _ _ ho rfl hb
      · obtain ⟨_,_,_,_,r5⟩:=hD.2.1 p hp
        exact r5 kk _ ho rfl (e ▸ hb)
noncomputable def rowsOf(k n:Nat):List (Nat × Nat × Nat):=(List.range n).map fun j=>(rkB k j,rkN k j,rkC k j)
theorem rowsOf_len(k n:Nat):(rowsOf k n).length=n:=by simp [rowsOf]
section
variable {bo cap ka kb na nb:Nat}
theorem join_l{j:Nat}(h:j<na):rkB (lay bo (na+nb) cap (rowsOf ka na++rowsOf kb nb)) j=rkB ka j∧rkN (lay bo (na+nb) cap (rowsOf ka na++rowsOf kb nb)) j=rkN ka j∧rkC (lay bo (na+nb) cap (rowsOf ka na++rowsOf kb nb)) j=rkC ka j:=by
  have hl:j<(rowsOf ka na++rowsOf kb nb).length:=by rw [List.length_append,rowsOf_len];omega
  have e:(rowsOf ka na++rowsOf kb nb)[j]=(rkB ka j,rkN ka j,rkC ka j):=by
    rw [List.getElem_append_left (by rw [rowsOf_len];exact h)]
    simp [rowsOf]
  have:=lay_r (bo:=bo) (n:=na+nb) (cap:=cap) hl
  rw [e] at this
  exact this
theorem join_r{j:Nat}(h:na≤j)(h2:j<na+nb):rkB (lay bo (na+nb) cap (rowsOf ka na++rowsOf kb nb)) j=rkB kb (j-na)∧rkN (lay bo (na+nb) cap (rowsOf ka na++rowsOf kb nb)) j=rkN kb (j-na)∧rkC (lay bo (na+nb) cap (rowsOf ka na++rowsOf kb nb)) j=rkC kb (j-na):=by
  have hl:j<(rowsOf ka na++rowsOf kb nb).length:=by rw [List.length_append,rowsOf_len,rowsOf_len];omega
  have e:(rowsOf ka na++rowsOf kb nb)[j]=(rkB kb (j-na),rkN kb (j-na),rkC kb (j-na)):=by
    rw [List.getElem_append_right (by rw [rowsOf_len];exact h)]
    simp [rowsOf]
  have:=lay_r (bo:=bo) (n:=na+nb) (cap:=cap) hl
  rw [e] at this
  exact this
end
theorem pk_join(hM:MemOK P C M w)(hF:Fr C0 M0 w0 C M w){ds:List Deferred}(hD:MarksOK C0 M0 M C w0 w ds){id ia ib to ti sz bo cap:Nat}{La Lb:List (Nat × List PV)}{w':World}{arr:Array Value}(hid:Free M id)(hne:ia≠ib)
    (ha:M[ia]? = some (some (.pk to ti sz La))) (hb:M[ib]? = some (some (.pk to ti sz Lb)))
    (hbo:(pkC (C.κ ia)≠0∧bo=pkB (C.κ ia))∨bo=w.heap.size) (hos:w'.os=w.os) (htp:w'.tape=w.tape) (hou:w'.output=w.output) (hsz:w.heap.size≤w'.heap.size)
    (hsame:∀ b,b<w.heap.size→b≠bo→w'.heap[b]? = w.heap[b]?) (harr:w'.heap[bo]? = some (.cells arr to (0,0))) (hcap:arr.size=cap) (hc1:La.length+Lb.length≤cap) (hc2:cap≤maxLen)
    (h1:∀ j,j<La.length→arr.getD j undef=pqV (C.κ ia) (.row j)) (h2:∀ j,j<Lb.length→arr.getD (La.length+j) undef=pqV (C.κ ib) (.row j)) (hpos:0<Lb.length) :
    ∃ C',Le C C' M (upds M [(ia,.dead),(ib,.dead),(id,.pk to ti sz (La++Lb))]) w w'∧MemOK P C' (upds M [(ia,.dead),(ib,.dead),(id,.pk to ti sz (La++Lb))]) w'∧Fr C0 M0 w0 C' (upds M [(ia,.dead),(ib,.dead),(id,.pk to ti sz (La++Lb))]) w' ∧
      MarksOK C0 M0 (upds M [(ia,.dead),(ib,.dead),(id,.pk to ti sz (La++Lb))]) C' w0 w' ds∧Rep C' (upds M [(ia,.dead),(ib,.dead),(id,.pk to ti sz (La++Lb))]) w' (.pa id .root) (.slice (some ⟨bo,0,none⟩) (La.length+Lb.length) cap):=by
  obtain ⟨qa,qa0,qa1⟩:=hD.2.2.1 _ _ _ _ _ ha
  obtain ⟨qb,qb0,qb1⟩:=hD.2.2.1 _ _ _ _ _ hb
  have hsz0:=hF.size
  have hx:=hD.2.2.2 _ _ _ _ _ _ _ _ _ _ ha hb hne
  generalize hk0:lay bo (La.length+Lb.length) cap (rowsOf (C.κ ia) La.length++rowsOf (C.κ ib) Lb.length)=k0
  have kB:pkB k0=bo:=by rw [← hk0];exact lay_B
  have kN:pkN k0=La.length+Lb.length:=by rw [← hk0];exact lay_N
  have kC:pkC k0=cap:=by rw [← hk0];exact lay_C
  have kl:∀ j,j<La.length→rkB k0 j=rkB (C.κ ia) j∧rkN k0 j=rkN (C.κ ia) j∧rkC k0 j=rkC (C.κ ia) j:=fun j h=>by rw [← hk0];exact join_l h
  have kr:∀ j,La.length≤j→j<La.length+Lb.length→rkB k0 j=rkB (C.κ ib) (j-La.length)∧rkN k0 j=rkN (C.κ ib) (j-La.length)∧rkC k0 j=rkC (C.κ ib) (j-La.length):=fun j h h'=>by rw [← hk0];exact join_r h h'
  have hκ:(C.pack id k0).κ id=k0:=by simp [Cx.pack]
  have ba:∀ j,j<La.length→PBlk (C.κ ia) (rkB (C.κ ia) j):=fun j h => .inr ⟨j,by rw [qa.n];exact h,rfl⟩
  have bb:∀ j,j<Lb.length→PBlk (C.κ ib) (rkB (C.κ ib) j):=fun j h => .inr ⟨j,by rw [qb.n];exact h,rfl⟩
  have na:∀ j,j<La.length→rkB (C.κ ia) j≠bo:=fun j h e=>by
    rcases hbo with ⟨r1,r2⟩ | r
    · exact qa.d1 r1 j (by rw [qa.n];exact h) (e.trans r2)
    · have:=(qa.lt (ba j h)).1;omega
  have nb:∀ j,j<Lb.length→rkB (C.κ ib) j≠bo:=fun j h e=>by
    rcases hbo with ⟨r1,r2⟩ | r
    · exact hx _ (.inl ⟨r1,rfl⟩) (by rw [← r2,← e];exact bb j h)
    · have:=(qb.lt (bb j h)).1;omega
  have hbk:∀ c,PBlk k0 c→(c=bo)∨(∃ j,j<La.length∧c=rkB (C.κ ia) j)∨∃ j,j<Lb.length∧c=rkB (C.κ ib) j:=fun c hc=>by
    rcases hc with ⟨_,h⟩ | ⟨j,hj,h⟩
    · rw [kB] at h;exact .inl h
    · rw [kN] at hj
      by_cases e:j<La.length
      · rw [(kl j e).1] at h;exact .inr (.inl ⟨j,e,h⟩)
      · rw [(kr j (by omega) hj).1] at h;exact .inr (.inr ⟨j-La.length,by omega,h⟩)
  have hM':∀ (i:Nat) (o:AO),(upds M [(ia,.dead),(ib,.dead),(id,.pk to ti sz (La++Lb))])[i]? = some (some o)↔(i=id∧o = .pk to ti sz (La++Lb))∨(i∈[ia,ib]∧o = .dead)∨(i≠id∧i∉[ia,ib]∧M[i]? = some (some o)):=fun i o=>by
    have nia:ia≠id:=fun e=>hid _ (e ▸ ha)
    have nib:ib≠id:=fun e=>hid _ (e ▸ hb)
    simp only [upds,List.mem_cons,List.not_mem_nil,or_false]
    by_cases c1:i=id
    · subst c1
      rw [setAt_same]
      constructor
      · intro h;cases h;exact .inl ⟨rfl,rfl⟩
      · rintro (⟨_,rfl⟩ | ⟨h | h,_⟩ | ⟨h,_⟩)
        · rfl
        · exact absurd h.symm nia
        · exact absurd h.symm nib
        · exact absurd rfl h
    · rw [setAt_other _ _ _ _ _ (Ne.symm c1)]
      by_cases c2:i=ib
      · subst c2
        rw [setAt_same]
        constructor
        · intro h;cases h;exact .inr (.inl ⟨.inr rfl,rfl⟩)
        · rintro (⟨h,_⟩ | ⟨_,rfl⟩ | ⟨_,h,_⟩)
          · exact absurd h c1
          · rfl
          · exact absurd (.inr rfl) h
      · rw [setAt_other _ _ _ _ _ (Ne.symm c2)]
        by_cases c3:i=ia
        · subst c3
          rw [setAt_same]
          constructor
          · intro h;cases h;exact .inr (.inl ⟨.inl rfl,rfl⟩)
          · rintro (⟨h,_⟩ | ⟨_,rfl⟩ | ⟨_,h,_⟩)
            · exact absurd h c1
            · rfl
            · exact absurd (.inl rfl) h
        · rw [setAt_other _ _ _ _ _ (Ne.symm c3)]
          constructor
          · intro h;exact .inr (.inr ⟨c1,fun h2=>h2.elim c3 c2,h⟩)
          · rintro (⟨h,_⟩ | ⟨h,_⟩ | ⟨_,_,h⟩)
            · exact absurd h c1
            · exact (h.elim c3 c2).elim
            · exact h
  have hFz:∀ c,C.F c→w'.heap[c]? = w.heap[c]? := fun c hc=>hsame c (hM.Fs c hc) fun e=>by
    rcases hbo with ⟨r1,r2⟩ | r
    · exact (qa.own _ (.inl ⟨r1,rfl⟩)).1 (by rw [← r2,← e];exact hc)
    · have:=hM.Fs c hc;omega
  have hown:∀ c,PBlk k0 c→¬ C.F c∧∀ (i:Nat) (o:AO),M[i]? = some (some o)→o.live=true→C.ι i≠some c:=fun c hc=>by
    rcases hbk c hc with rfl | ⟨j,hj,rfl⟩ | ⟨j,hj,rfl⟩
    · rcases hbo with ⟨r1,r2⟩ | r
      · rw [r2];exact qa.own _ (.inl ⟨r1,rfl⟩)
      · exact ⟨fun h=>by have:=hM.Fs _ h;omega,fun i o h hl he=>by have:=hM.lt _ _ _ h hl he;omega⟩
    · exact qa.own _ (ba j hj)
    · exact qb.own _ (bb j hj)
  have hnew:PkOK (C.pack id k0) (upds M [(ia,.dead),(ib,.dead),(id,.pk to ti sz (La++Lb))]) w' id to ti sz (La++Lb):=by
    refine ⟨by simp [Cx.pack],by rw [hκ,kN,List.length_append],by rw [hκ,kN,kC];exact hc1,by rw [hκ,kC];exact hc2,fun _ => ?_,fun j hj => ?_,fun c hc => ?_,fun _ j hj => ?_,fun j j' hj hj' => ?_⟩
    · rw [hκ,kB,kC,kN]
      refine ⟨arr,harr,hcap,fun j hj => ?_⟩
      by_cases e:j<La.length
      · rw [h1 j e]
        obtain ⟨r1,r2,r3⟩:=kl j e
        show Value.slice _ _ _=Value.slice _ _ _
        rw [r1,r2,r3]
      · have:=h2 (j-La.length) (by omega)
        rw [show La.length+(j-La.length)=j by omega] at this
        rw [this]
        obtain ⟨r1,r2,r3⟩:=kr j (by omega) hj
        show Value.slice _ _ _=Value.slice _ _ _
        rw [r1,r2,r3]
    · rw [List.length_append] at hj
      rw [hκ]
      by_cases e:j<La.length
      · obtain ⟨r1,r2,r3⟩:=kl j e
        rw [r1,r2,r3,List.getElem_append_left e]
        obtain ⟨q1,q2,q3,ar,q4,q5,q6,q7,q8⟩:=qa.row j e
        exact ⟨q1,q2,q3,ar,by rw [hsame _ (qa.lt (ba j e)).1 (na j e)];exact q4,q5,q6,fun i hi=>(q7 i hi).mono (fun _ h=>h) hFz,q8⟩
      · obtain ⟨r1,r2,r3⟩:=kr j (by omega) hj
        rw [r1,r2,r3,List.getElem_append_right (by omega)]
        have hj':j-La.length<Lb.length:=by omega
        obtain ⟨q1,q2,q3,ar,q4,q5,q6,q7,q8⟩:=qb.row _ hj'
        exact ⟨q1,q2,q3,ar,by rw [hsame _ (qb.lt (bb _ hj')).1 (nb _ hj')];exact q4,q5,q6,fun i hi=>(q7 i hi).mono (fun _ h=>h) hFz,q8⟩
    · rw [hκ] at hc
      refine ⟨(hown c hc).1,fun i o ho' hl => ?_⟩
      rcases (hM' i o).1 ho' with ⟨rfl,_⟩ | ⟨_,rfl⟩ | ⟨e,_,h⟩
      · simp [Cx.pack]
      · cases hl
      · simp only [Cx.pack,e,if_false]
        exact (hown c hc).2 i o h hl
    · rw [hκ,kN] at hj
      rw [hκ,kB]
      by_cases e:j<La.length
      · rw [(kl j e).1];exact na j e
      · rw [(kr j (by omega) hj).1];exact nb _ (by omega)
    · rw [hκ,kN] at hj hj'
      rw [hκ]
      intro he
      by_cases e:j<La.length
      · rw [(kl j e).1] at he
        by_cases e':j'<La.length
        · rw [(kl j' e').1] at he
          exact qa.d2 j j' (by rw [qa.n];exact e) (by rw [qa.n];exact e') he
        · rw [(kr j' (by omega) hj').1] at he
          exact (hx _ (ba j e) (by rw [he];exact bb _ (by omega))).elim
      · rw [(kr j (by omega) hj).1] at he
        by_cases e':j'<La.length
        · rw [(kl j' e').1] at he
          exact (hx _ (ba j' e') (by rw [← he];exact bb _ (by omega))).elim
        · rw [(kr j' (by omega) hj').1] at he
          have:=qb.d2 (j-La.length) (j'-La.length) (by rw [qb.n];omega) (by rw [qb.n];omega) he
          omega
  have fin:=pk_final (ks:=[ia,ib]) (w':=w') hM hF hD (fun b=>b=bo∧b<w.heap.size) hid hM' hos htp hou hsz (fun c hc => ?_) (fun c hc hn=>hsame c hc fun e=>hn ⟨e,hc⟩) hnew (fun c hc => ?_)
  · refine ⟨_,fin.1,fin.2.1,fin.2.2.1,fin.2.2.2,?_⟩
    have hrep:=pa_rep (C:=C.pack id k0) (w:=w') (id:=id) (q := .root) ((hM' id _).2 (.inl ⟨rfl,rfl⟩))
    have hv:pqV ((C.pack id k0).κ id) .root = .slice (some ⟨bo,0,none⟩) (La.length+Lb.length) cap:=by
      rw [hκ]
      unfold pqV
      rw [kC,if_neg (by omega),kB,kN]
    rwa [hv] at hrep
  · obtain ⟨rfl,hlt⟩:=hc
    rcases hbo with ⟨r1,r2⟩ | r
    · have hpb:PBlk (C.κ ia) c := .inl ⟨r1,r2⟩
      exact ⟨(qa1 c hpb).1,(qa.own c hpb).1,fun i o h hl _=>(qa.own c hpb).2 i o h hl,(qa1 c hpb).2,(qa.lt hpb).2,fun i to2 ti2 sz2 L2 h hk hc2=>hD.2.2.2 _ _ _ _ _ _ _ _ _ _ ha h (fun e=>hk (by simp [e])) c hpb hc2⟩
    · omega
  · have hpk:∀ (i:Nat) (to2 ti2 sz2:Nat) (L2:List (Nat × List PV)),M[i]? = some (some (.pk to2 ti2 sz2 L2))→i∉[ia,ib]→i≠ia∧i≠ib:=fun i _ _ _ _ _ h=>by simpa using h
    rcases hbk c hc with rfl | ⟨j,hj,rfl⟩ | ⟨j,hj,rfl⟩
    · rcases hbo with ⟨r1,r2⟩ | r
      · have hpb:PBlk (C.κ ia) c := .inl ⟨r1,r2⟩
        exact ⟨(qa1 c hpb).1,(qa1 c hpb).2,fun i to2 ti2 sz2 L2 h hk hc2=>hD.2.2.2 _ _ _ _ _ _ _ _ _ _ ha h (Ne.symm (hpk _ _ _ _ _ h hk).1) c hpb hc2⟩
      · refine ⟨.inl (by omega),fun p hp e => ?_,fun i to2 ti2 sz2 L2 h _ hc2 => ?_⟩
        · obtain ⟨r1,_⟩:=hD.2.1 p hp
          have:=(Array.getElem?_eq_some_iff.1 r1).1
          omega
        · have:=((hD.2.2.1 _ _ _ _ _ h).1.lt hc2).1
          omega
    · exact ⟨(qa1 _ (ba j hj)).1,(qa1 _ (ba j hj)).2,fun i to2 ti2 sz2 L2 h hk hc2=>hD.2.2.2 _ _ _ _ _ _ _ _ _ _ ha h (Ne.symm (hpk _ _ _ _ _ h hk).1) _ (ba j hj) hc2⟩
    · exact ⟨(qb1 _ (bb j hj)).1,(qb1 _ (bb j hj)).2,fun i to2 ti2 sz2 L2 h hk hc2=>hD.2.2.2 _ _ _ _ _ _ _ _ _ _ hb h (Ne.symm (hpk _ _ _ _ _ h hk).2) _ (bb j hj) hc2⟩
theorem pappend_sound(hT:∀ t i,T t=some i→tiOf P t=some i)(hM:MemOK P C M w)(hF:Fr C0 M0 w0 C M w)(hD:MarksOK C0 M0 M C w0 w a.defers){id t t2 ty:Nat}{y z x:AV}{u v:Value}{U:Upd}{s s':AS}(hy:Rep C M w y u)(hz:Rep C M w z v)(h:pappend T M id t t2 y z s=some ((x,U),s'))(g:Good s') :
    Good s∧∃ (C':Cx) (w':World) (r:Value),(Builtin.append_ #[t,t2] ty #[u,v]).run P w = .ok r w'∧Le C C' M (upds M U) w w'∧MemOK P C' (upds M U) w'∧Fr C0 M0 w0 C' (upds M U) w'∧MarksOK C0 M0 (upds M U) C' w0 w' a.defers∧Rep C' (upds M U) w' x r:=by
  unfold pappend at h
  obtain ⟨e,s1,h1,k1⟩:=ask_bind h
  obtain ⟨e1,rfl⟩:=ask_lift h1
  obtain ⟨_,s2,h2,k2⟩:=ask_bind k1
  obtain ⟨e2,rfl⟩:=ask_lift h2
  obtain ⟨⟨rfl,hf,hs1,hby,hzl⟩,_⟩:=ite_some e2
  replace hf:=freeB_inv hf
  split at k2
  rotate_left
  · exact (ask_fail k2).elim
  rename_i ia ib
  obtain ⟨p,s3,h3,k3⟩:=ask_bind k2
  obtain ⟨e3,rfl⟩:=ask_lift h3
  obtain ⟨q,s4,h4,k4⟩:=ask_bind k3
  obtain ⟨e4,rfl⟩:=ask_lift h4
  obtain ⟨_,s5,h5,k5⟩:=ask_bind k4
  obtain ⟨e5,rfl⟩:=ask_lift h5
  obtain ⟨⟨hne,hp1,hq1,hpq,hpq2⟩,_⟩:=ite_some e5
  obtain ⟨_,s6,h6,k6⟩:=ask_bind k5
  obtain ⟨he,rfl⟩:=ask_pure k6
  cases he
  obtain ⟨⟨hpos,hsum⟩,g⟩:=ask_P h6 g
  refine ⟨g,?_⟩
  clear h1 h2 h3 h4 h5 h6 k1 k2 k3 k4 k5 h
  obtain ⟨hd,hj⟩:=elemOf_inv hT e1
  obtain ⟨inf,_,zv,hinf,_,hzz,_,hsz,hbyt,hzl2,_⟩:=tiOf_inv hj
  have hi1:inf.size=1:=by rw [← hsz];exact hs1
  have hzs:zv.cells.size=1:=by rw [← Array.length_toList,← hzl2,hzl]
  have qa:=pk_at hD e3
  have qb:=pk_at hD e4
  have ha:=pkAt_inv e3
  have hb:=pkAt_inv e4
  obtain rfl:=pa_val hy ha
  obtain rfl:=pa_val hz hb
  obtain ⟨to,ti,sz,La⟩:=p
  obtain ⟨to',ti',sz',Lb⟩:=q
  dsimp only at hp1 hq1 hpq hpq2 hpos hsum qa qb ha hb ⊢
  subst hpq hpq2 hp1 hq1
  have hcb:pkC (C.κ ib)≠0:=by have:=qb.n;have:=qb.nc;omega
  have hvb:pqV (C.κ ib) .root = .slice (some ⟨pkB (C.κ ib),0,none⟩) Lb.length (pkC (C.κ ib)):=by unfold pqV;rw [if_neg hcb,qb.n]
  obtain ⟨arb,b1,b2,b3⟩:=qb.out hcb
  have hnews:∀ j v,(vals Lb.length fun j=>pqV (C.κ ib) (.row j))[j]? = some v→w.cell? ((⟨pkB (C.κ ib),0,none⟩:Addr).add j)=some v:=fun j v hv=>by
    obtain ⟨hj,rfl⟩:=vals_inv hv
    rw [Addr.add_lit,Nat.zero_add,← b3 j (by rw [qb.n];exact hj)]
    exact cell_of_heap b1 (by have:=qb.n;have:=qb.nc;omega)
  have hone:∀ v∈(vals Lb.length fun j=>pqV (C.κ ib) (.row j)),v.oneCell'=true:=fun v hv=>by
    obtain ⟨i,_,rfl⟩:=vals_mem hv
    exact pqV_one _ _
  have hnl:(vals Lb.length fun j=>pqV (C.κ ib) (.row j)).length=Lb.length*inf.size:=by rw [vals_len,hi1,Nat.mul_one]
  rw [hvb]
  by_cases hca:pkC (C.κ ia)=0
  · have hva:pqV (C.κ ia) .root = .slice none 0 0:=by unfold pqV;rw [if_pos hca]
    have hla:La.length=0:=by have:=qa.n;have:=qa.nc;omega
    have hrun:=run_append_nil (P:=P) (w:=w) t ty e.1 inf zv hd hinf hzz ⟨pkB (C.κ ib),0,none⟩ Lb.length (pkC (C.κ ib)) _ hnl hnews hpos (by omega) (by rw [← hbyt];exact Nat.le_trans (fits1 (by omega) hby) (by omega))
    have hgc:=grownCap_ge w Lb.length 0 e.1
    have hgc2:=grownCap_le_maxLen w Lb.length 0 e.1 (by simp [maxLen];omega)
    obtain ⟨p1,p2,p3⟩:=heap_push w.drew (.cells ((vals Lb.length fun j=>pqV (C.κ ib) (.row j)).toArray++Builtin.zeroCells zv.cells (grownCap w Lb.length 0 e.1-Lb.length)) e.1)
    have hdh:w.drew.heap=w.heap:=rfl
    rw [hdh] at p1 p2 p3
    obtain ⟨C',r1,r2,r3,r4,r5⟩:=pk_join (bo:=w.heap.size) hM hF hD hf hne ha hb (.inr rfl) (w':=w.drew.alloc (.cells ((vals Lb.length fun j=>pqV (C.κ ib) (.row j)).toArray++Builtin.zeroCells zv.cells (grownCap w Lb.length 0 e.1-Lb.length)) e.1)) rfl rfl rfl (by omega) (fun b hlt _=>p3 b hlt) p2
      (cap:=grownCap w Lb.length 0 e.1) (by rw [Array.size_append,size_zeroCells,hzs,List.size_toArray,vals_len];omega) (by omega) hgc2 (fun j hj=>by omega) (fun j hj=>by
        rw [hla,Nat.zero_add,getD_append_l _ _ (by simp [vals_len];omega),getD_vals hj]) hpos
    rw [hla,Nat.zero_add] at r5
    exact ⟨C',_,_,by rw [hva];exact hrun,r1,r2,r3,r4,r5⟩
  · have hva:pqV (C.κ ia) .root = .slice (some ⟨pkB (C.κ ia),0,none⟩) La.length (pkC (C.κ ia)):=by unfold pqV;rw [if_neg hca,qa.n]
    obtain ⟨ara,a1,a2,a3⟩:=qa.out hca
    have hnca:La.length≤pkC (C.κ ia):=by have:=qa.n;have:=qa.nc;omega
    by_cases hroom:La.length+Lb.length≤pkC (C.κ ia)
    · have hrun:=run_append_room (P:=P) w t ty e.1 inf hd hinf (pkB (C.κ ia)) La.length (pkC (C.κ ia)) ara a1 ⟨pkB (C.κ ib),0,none⟩ Lb.length (pkC (C.κ ib)) _ hnl hnews hone hroom (by rw [vals_len,hi1,Nat.mul_one,a2];exact hroom)
      rw [hi1,Nat.mul_one] at hrun
      have hvs:(vals Lb.length fun j=>pqV (C.κ ib) (.row j)).toArray.size=Lb.length:=by simp [vals_len]
      obtain ⟨s1,s2⟩:=spliced ara (vals Lb.length fun j=>pqV (C.κ ib) (.row j)).toArray La.length (by rw [hvs,a2];exact hroom)
      simp only at s1 s2
      have hbut:=but_setRow w (pkB (C.κ ia)) (ara.toList.take La.length++(vals Lb.length fun j=>pqV (C.κ ib) (.row j))++ara.toList.drop (La.length+(vals Lb.length fun j=>pqV (C.κ ib) (.row j)).length)).toArray
      obtain ⟨C',r1,r2,r3,r4,r5⟩:=pk_join (bo:=pkB (C.κ ia)) hM hF hD hf hne ha hb (.inl ⟨hca,rfl⟩) (w':=w.setRow (pkB (C.κ ia)) (ara.toList.take La.length++(vals Lb.length fun j=>pqV (C.κ ib) (.row j))++ara.toList.drop (La.length+(vals Lb.length fun j=>pqV (C.κ ib) (.row j)).length)).toArray) rfl rfl rfl (by rw [hbut.size];exact Nat.le_refl _) (fun b _ hb'=>hbut.heap b hb') (setRow_heap w _ ara _ e.1 _ a1)
        (cap:=pkC (C.κ ia)) (by rw [s1,a2]) hroom qa.cm (fun j hj=>by
          rw [s2 j (by omega),if_pos hj];exact a3 j (by rw [qa.n];exact hj)) (fun j hj=>by
          rw [s2 _ (by omega),hvs,if_neg (by omega),if_pos (by omega),Nat.add_sub_cancel_left,getD_vals hj]) hpos
      exact ⟨C',_,_,by rw [hva];exact hrun,r1,r2,r3,r4,r5⟩
    · have holds:∀ j v,(vals La.length fun j=>pqV (C.κ ia) (.row j))[j]? = some v→w.cell? ((⟨pkB (C.κ ia),0,none⟩:Addr).add j)=some v:=fun j v hv=>by
        obtain ⟨hj,rfl⟩:=vals_inv hv
        rw [Addr.add_lit,Nat.zero_add,← a3 j (by rw [qa.n];exact hj)]
        exact cell_of_heap a1 (by omega)
      have hgc:=grownCap_ge w (La.length+Lb.length) (pkC (C.κ ia)) e.1
      have hgc2:=grownCap_le_maxLen w (La.length+Lb.length) (pkC (C.κ ia)) e.1 (by simp [maxLen];omega)
      have hrun:=run_append_grow (P:=P) (w:=w) t ty e.1 inf zv hd hinf hzz ⟨pkB (C.κ ia),0,none⟩ La.length (pkC (C.κ ia)) (vals La.length fun j=>pqV (C.κ ia) (.row j)) (by rw [vals_len,hi1,Nat.mul_one]) holds ⟨pkB (C.κ ib),0,none⟩ Lb.length (pkC (C.κ ib)) _ hnl hnews (by omega) (by omega)
        (growslice_fits (by omega) (by rw [← hbyt];exact Nat.le_trans (fits1 hsum hby) (by omega)))
      obtain ⟨p1,p2,p3⟩:=heap_push w.drew (.cells ((vals La.length fun j=>pqV (C.κ ia) (.row j)).toArray++(vals Lb.length fun j=>pqV (C.κ ib) (.row j)).toArray++Builtin.zeroCells zv.cells (grownCap w (La.length+Lb.length) (pkC (C.κ ia)) e.1-(La.length+Lb.length))) e.1)
      have hdh:w.drew.heap=w.heap:=rfl
      rw [hdh] at p1 p2 p3
      obtain ⟨C',r1,r2,r3,r4,r5⟩:=pk_join (bo:=w.heap.size) hM hF hD hf hne ha hb (.inr rfl) (w':=w.drew.alloc (.cells ((vals La.length fun j=>pqV (C.κ ia) (.row j)).toArray++(vals Lb.length fun j=>pqV (C.κ ib) (.row j)).toArray++Builtin.zeroCells zv.cells (grownCap w (La.length+Lb.length) (pkC (C.κ ia)) e.1-(La.length+Lb.length))) e.1)) rfl rfl rfl (by omega) (fun b hlt _=>p3 b hlt) p2
        (cap:=grownCap w (La.length+Lb.length) (pkC (C.κ ia)) e.1) (by rw [Array.size_append,Array.size_append,size_zeroCells,hzs,List.size_toArray,List.size_toArray,vals_len,vals_len];omega) hgc hgc2 (fun j hj=>by
          rw [getD_append_l _ _ (by simp [vals_len];omega),getD_append_l _ _ (by simp [vals_len];omega),getD_vals hj]) (fun j hj=>by
          rw [getD_append_l _ _ (by simp [vals_len];omega),getD_append_r _ _ (by simp [vals_len]),List.size_toArray,vals_len,Nat.add_sub_cancel_left,getD_vals hj]) hpos
      exact ⟨C',_,_,by rw [hva];exact hrun,r1,r2,r3,r4,r5⟩
end
theorem ask_FP{f:Nat}{args:List AV}{m:Mem}{id:Nat}{x:AV × Upd}{s s':AS}(h:askFP P f args m id s=some (x,s'))(g:Good s'):Good s∧∃ o,x.2=[(id,o)]∧Free m id∧FMP P f args m x.1 id o:=by
  unfold askFP at h
  split at h
  · cases h
  · split at h
    · rename_i r i o q ho
      split at h
      · rename_i hb
        cases h
        rw [Bool.and_eq_true] at hb
        obtain ⟨h1,h2⟩:=g.tail
        have:=Nat.eq_of_beq_eq_true hb.2
        subst this
        exact ⟨h2,o,rfl,freeB_inv hb.1,h1 m hb.1⟩
      · cases h
    · cases h
theorem pk_call(hM:MemOK P C M w)(hF:Fr C0 M0 w0 C M w){ds:List Deferred}(hD:MarksOK C0 M0 M C w0 w ds){id:Nat}{o:AO}{C':Cx}{w':World}(hf:Free M id)(f:Fr C M w C' (setAt M id (some o)) w')
    (hp:∀ (to ti sz:Nat) (L:List (Nat × List PV)),o = .pk to ti sz L→PkOK C' (setAt M id (some o)) w' id to ti sz L∧∀ b,PBlk (C'.κ id) b→w.heap.size≤b):MarksOK C0 M0 (setAt M id (some o)) C' w0 w' ds:=by
  refine ⟨hD.1.fr hM hD.2.2 f,hD.2.1.fr f,?_⟩
  have hz:=(hM.le f).fz
  have hsz0:=hF.size
  have old:∀ (i to ti sz:Nat) (L:List (Nat × List PV)),i≠id→(setAt M id (some o))[i]? = some (some (.pk to ti sz L))→M[i]? = some (some (.pk to ti sz L)):=fun i to ti sz L h hm=>(setAt_other M id i _ _ (Ne.symm h)).1 hm
  refine ⟨fun i to ti sz L hm => ?_,fun i i' to ti sz to' ti' sz' L L' hm hm' hne b hb hb' => ?_⟩
  · by_cases e:i=id
    · subst e
      rw [setAt_same] at hm;cases hm
      obtain ⟨q1,q2⟩:=hp _ _ _ _ rfl
      refine ⟨q1,fun o' ho' => ?_,fun b hb=>⟨.inl (Nat.le_trans hsz0 (q2 b hb)),fun p hp' e2 => ?_⟩⟩
      · obtain ⟨⟨o2,r1⟩,_⟩:=hF.ids i o' ho'
        exact hf o2 r1
      · obtain ⟨r1,_⟩:=hD.2.1 p hp'
        have:=(Array.getElem?_eq_some_iff.1 r1).1
        have:=q2 b hb
        omega
    · have hm':=old _ _ _ _ _ e hm
      obtain ⟨q,q0,q1⟩:=hD.2.2.1 _ _ _ _ _ hm'
      obtain ⟨_,e1,e2⟩:=f.ids _ _ hm'
      refine ⟨q.move (e1.trans q.io) e2 f.F1 hz fun b hb=>⟨f.keep b (q.lt hb).1 (q.own b hb).2,fun hf' => ?_,fun i2 o2 ho hl he => ?_⟩,q0,by rw [e2];exact q1⟩
      · rcases f.F2 b hf' with r | r | ⟨i2,o2,r1,r2,r3⟩
        · exact (q.own b hb).1 r
        · have:=(q.lt hb).1;omega
        · exact (q.own b hb).2 i2 o2 r1 r2 r3
      · rcases f.new i2 o2 b ho hl he with r | ⟨i3,o3,r1,r2,r3⟩
        · have:=(q.lt hb).1;omega
        · exact (q.own b hb).2 i3 o3 r1 r2 r3
  · by_cases e:i=id
    · subst e
      have e':i'≠i:=Ne.symm hne
      have hm2:=old _ _ _ _ _ e' hm'
      rw [setAt_same] at hm;cases hm
      obtain ⟨_,q2⟩:=hp _ _ _ _ rfl
      rw [(f.ids _ _ hm2).2.2] at hb'
      have:=((hD.2.2.1 _ _ _ _ _ hm2).1.lt hb').1
      have:=q2 b hb
      omega
    · have hm1:=old _ _ _ _ _ e hm
      rw [(f.ids _ _ hm1).2.2] at hb
      by_cases e':i'=id
      · subst e'
        rw [setAt_same] at hm';cases hm'
        obtain ⟨_,q2⟩:=hp _ _ _ _ rfl
        have:=((hD.2.2.1 _ _ _ _ _ hm1).1.lt hb).1
        have:=q2 b hb'
        omega
      · have hm2:=old _ _ _ _ _ e' hm'
        rw [(f.ids _ _ hm2).2.2] at hb'
        exact hD.2.2.2 _ _ _ _ _ _ _ _ _ _ hm1 hm2 hne b hb hb'

theorem coreP_sound(hT:∀ t i,T t=some i→tiOf P t=some i)(hE:EnvOK P E){o:Oper}{st:St}{a:Act}{id:Nat}{vs:List AV}{x:AV}{L:Upd}{s s':AS}(hS:Slots C st.m w st.t a.tmps)(hM:MemOK P C st.m w)(hF:Fr C0 M0 w0 C st.m w)(hD:MarksOK C0 M0 st.m C w0 w a.defers)
    (hv:RepL C st.m w vs (o.op.operands.toList.map a.eval)) (h:coreP P T E o vs st.m id s=some ((x,L),s')) (g:Good s') :
    Good s∧UpS P w (fun u w'=>Sim P C0 M0 w0 ⟨put st.t o.dst x,upds st.m L⟩ (a.put o.dst u) w') ((execOp a.eval o).run P w):=by
  have hrefl:Le C C st.m st.m w w:=hM.le (Fr.refl ..)
  unfold coreP at h
  unfold execOp
  have mapA:∀ aa:Array Operand,(aa.toList.map a.eval).toArray=aa.map a.eval:=fun aa=>by apply Array.toList_inj.1;simp
  cases hop:o.op <;> simp only [hop] at h hv ⊢ <;> try exact (ask_fail h).elim
  case load t y =>
    obtain ⟨b,rfl,k1⟩:=on1_inv h
    obtain ⟨g,rfl,r,h1,h2⟩:=pload_sound hT hD hv.one k1 g
    exact ⟨g,ups_value h1 (sim_fin hS hrefl hM hF hD h2)⟩
  case store t y z =>
    obtain ⟨b,c,rfl,k1⟩:=on2_inv h
    obtain ⟨q1,q2⟩:=hv.two
    obtain ⟨g,rfl,w',h1,h2,h3,h4,h5⟩:=pstore_sound hT hM hF hD q1 q2 k1 g
    refine ⟨g,?_⟩
    rw [Sem.run_bind,h1,Result.andThen_ok,Sem.run_pure]
    exact fun u=>sim_fin hS h3 h2 h4 h5 (.any _)
  case indexAddr t y z =>
    obtain ⟨b,c,rfl,k1⟩:=on2_inv h
    obtain ⟨q1,q2⟩:=hv.two
    obtain ⟨g,rfl,r,h1,h2⟩:=pindex_sound hT hD q1 q2 k1 g
    exact ⟨g,ups_value h1 (sim_fin hS hrefl hM hF hD h2)⟩
  case buildSlice t len ps =>
    have hp:=RepL.parts (ps:=ps.toList) (ρ:=a.eval) (by simpa [Op.operands,Function.comp_def] using hv)
    obtain ⟨g,C',w',u,h1,h2,h3,h4,h5,h6⟩:=pbuild_sound hT hM hF hD (k:=ps.map fun p=>(p.1,a.eval p.2)) (by simpa using hp) h g
    exact ⟨g,ups_value h1 (sim_fin hS h2 h3 h4 h5 h6)⟩
  case call c =>
    cases hc:c.callee with
    | builtin b =>
      simp only [hc] at h
      have hv2:RepL C st.m w vs (c.args.toList.map a.eval):=by simpa [Op.operands,Call.operands,hc] using hv
      simp only [resolve,hc,Sem.run_bind,Sem.run_pure,Result.andThen_ok,invoke]
      rw [← mapA]
      cases b <;> simp only at h <;> try exact (ask_fail h).elim
      case len =>
        obtain ⟨y,rfl,k0⟩:=on1_inv h
        obtain ⟨t,s1,h1,k1⟩:=ask_bind k0
        obtain ⟨e1,rfl⟩:=ask_lift h1
        generalize c.args.toList.map a.eval=us at hv2
        cases hv2 with
        | cons _ u _ _ hx hr =>
          cases hr
          obtain ⟨g,rfl,r,h2,h3⟩:=plen_sound hT hM hD (ts:=c.argTypes) e1 hx k1 g
          exact ⟨g,ups_value h2 (sim_fin hS hrefl hM hF hD h3)⟩
      case append =>
        obtain ⟨y,z,rfl,k1⟩:=on2_inv h
        generalize ht:c.argTypes.toList=tl at k1
        split at k1
        · rename_i t t2
          generalize c.args.toList.map a.eval=us at hv2
          cases hv2 with
          | cons _ u _ _ hx hr =>
            cases hr with
            | cons _ v _ _ hy hr =>
              cases hr
              obtain ⟨g,C',w',r,h1,h2,h3,h4,h5,h6⟩:=pappend_sound hT hM hF hD hx hy k1 g
              have e:c.argTypes = #[t,t2]:=by apply Array.toList_inj.1;rw [ht]
              rw [e]
              exact ⟨g,ups_value h1 (sim_fin hS h2 h3 h4 h5 h6)⟩
        · exact (ask_fail k1).elim
    | value f =>
      simp only [hc] at h
      have hv2:RepL C st.m w vs (a.eval f::c.args.toList.map a.eval):=by simpa [Op.operands,Call.operands,hc] using hv
      split at h
      · rename_i fn first caps args
        obtain ⟨_,s1,h1,k1⟩:=ask_bind h
        obtain ⟨e1,rfl⟩:=ask_lift h1
        obtain ⟨hok,_⟩:=ite_some e1
        obtain ⟨g,o2,e2,hfr,hFM⟩:=ask_FP k1 g
        dsimp only at e2
        subst e2
        refine ⟨g,?_⟩
        simp only [resolve,hc]
        rw [← mapA]
        generalize a.eval f=uf at hv2 ⊢
        cases hv2 with
        | cons _ _ _ _ h2 hr =>
          cases h2 with
          | fn _ _ _ vs1 vs2 q1 q2 q3 q4 =>
            have hl:RepL C st.m w (first++args++caps) (vs1.toList++c.args.toList.map a.eval++vs2.toList):=((RepL.ofArr q1 q3).app hr).app (RepL.ofArr q2 q4)
            have hcall:(callFunc fn (vs1.toList++c.args.toList.map a.eval++vs2.toList).toArray).run P w = .ok (.enter fn (vs1.toList++c.args.toList.map a.eval++vs2.toList).toArray) w:=hE.ok fn hok _ _
            have e:(vs1.toList++c.args.toList.map a.eval++vs2.toList).toArray=vs1++(c.args.toList.map a.eval).toArray++vs2:=by
              apply Array.toList_inj.1;simp
            have goal:UpS P w (fun u w'=>Sim P C0 M0 w0 ⟨put st.t o.dst x,upds st.m [(id,o2)]⟩ (a.put o.dst u) w') ((do let d ← Deferred.ofValue (.func (.func fn) vs1 vs2) (c.args.toList.map a.eval).toArray;invoke d.target d.args:Sem Next).run P w):=by
              rw [Sem.run_bind]
              simp only [Deferred.ofValue,Sem.run_pure,Result.andThen_ok,invoke]
              rw [← e,hcall]
              refine ⟨rfl,fun n=>(hFM C w _ hl hM n).mono ?_⟩
              rintro e' w'' ⟨u,rfl,C',f1,f2,f3,f4⟩
              exact ⟨u,rfl,sim_fin hS (hM.le f1) f2 (hF.trans f1) (pk_call hM hF hD hfr f1 f4) f3⟩
            simpa using goal
      · exact (ask_fail h).elim
    | invoke r n=>simp only [hc] at h;exact (ask_fail h).elim
end
section
variable {P:Program} {T:TT} {E:Env} {C C0:Cx} {M M0:Mem} {w w0:World}

def OpOK(P:Program)(ops:Array Oper)(o:Oper)(st st':St):Prop:=∀ (C0:Cx) (M0:Mem) (w0:World) (a:Act) (w:World),Sim P C0 M0 w0 st a w→∀ (ro:Option Nat) (n:Nat) (K:Act→World→Prop) (Q:Exit→Act→World→Prop),
  (∀ a' w',Sim P C0 M0 w0 st' a' w'→K a' w')→if Region.wanted o (yielded ops a.tmps) then o.wpIn (Fen ro) n P a w K Q else (∀ f,o.about P w a.eval=some f→(Fen ro).fn f)∧K (a.put o.dst undef) w

theorem coreQ_defer{o:Oper}{vs:List AV}{id:Nat}{r:AV × Upd}{s s':AS}(h:coreQ P T E o vs M id s=some (r,s')):∀ c,o.op ≠ .defer c:=by
  rcases coreQ_inv h with ⟨q,_,_,h1⟩ | ⟨h1,_⟩
  · intro c hc
    unfold coreP at h1
    rw [hc] at h1
    exact (ask_fail h1).elim
  · exact core_defer h1
theorem step_sound(hT:∀ t i,T t=some i→tiOf P t=some i)(hE:EnvOK P E){ops:List Oper}{o:Oper}{id:Nat}{st st':St}{s s':AS}(h:stepOp P T E ops o id st s=some (st',s'))(g:Good s'):OpOK P ops.toArray o st st':=by
  intro C0 M0 w0 a w hsim ro n K Q hK
  obtain ⟨C,hS,hM,hF,hD⟩:=hsim
  unfold stepOp at h
  obtain ⟨go,s1,h1,k1⟩:=ask_bind h
  cases go with
  | true =>
    obtain ⟨vs,s2,h2,k2⟩:=ask_bind k1
    obtain ⟨e2,rfl⟩:=ask_lift h2
    obtain ⟨⟨x,L⟩,s3,h3,k3⟩:=ask_bind k2
    obtain ⟨rfl,rfl⟩:=ask_pure k3
    have gd:=mono_coreQ.good h3 g
    rw [guard_sound hS h1 gd,if_pos rfl]
    refine ⟨fun f _=>trivial,?_⟩
    rw [Oper.semAt_eq _ _ _ (coreQ_defer h3)]
    rcases coreQ_inv h3 with ⟨q,_,_,h4⟩ | ⟨h4,hno⟩
    · obtain ⟨_,hup⟩:=coreP_sound hT hE hS hM hF hD (evs_repL hS _ _ e2) h4 g
      revert hup
      generalize (execOp a.eval o).run P w=r
      intro hup
      cases r with
      | halt x w'=>exact hup.elim
      | ok nx w' =>
        cases nx with
        | value u=>exact hK _ _ hup
        | skip=>exact hK _ _ (hup _)
        | enter f us =>
          obtain ⟨rfl,hc⟩:=hup
          refine ⟨fun h=>by simp [Fen,Fence.wide] at h,(fen_calls (hc (n-1))).mono ?_⟩
          rintro e w'' ⟨u,rfl,hs⟩
          exact hK _ _ hs
        | _=>exact hup.elim
    · obtain ⟨_,hup⟩:=core_sound hT hE hM (evs_repL hS _ _ e2) h4 g
      have hk:PkSame st.m (upds st.m L):=pkSame_upds hno
      revert hup
      generalize (execOp a.eval o).run P w=r
      intro hup
      cases r with
      | halt x w'=>exact hup.elim
      | ok nx w' =>
        cases nx with
        | value u =>
          obtain ⟨C',f,m,r⟩:=hup
          exact hK _ _ (sim_put hS hM hF hD f hk m r)
        | skip =>
          obtain ⟨rfl,C',f,m⟩:=hup
          exact hK _ _ (sim_put hS hM hF hD f hk m (.any _))
        | enter f us =>
          obtain ⟨rfl,hc⟩:=hup
          refine ⟨fun h=>by simp [Fen,Fence.wide] at h,(fen_calls (hc (n-1))).mono ?_⟩
          rintro e w'' ⟨u,rfl,C',f,m,r⟩
          exact hK _ _ (sim_put hS hM hF hD f hk m r)
        | _=>exact hup.elim
  | false =>
    obtain ⟨rfl,rfl⟩:=ask_pure k1
    rw [guard_sound hS h1 g]
    simp only [Bool.false_eq_true,if_false]
    exact ⟨fun f _=>trivial,hK _ _ (sim_put hS hM hF hD (Fr.refl ..) .refl hM (.tup [] #[] rfl (fun i h=>by simp at h)))⟩

theorem runL_sound(hT:∀ t i,T t=some i→tiOf P t=some i)(hE:EnvOK P E){ops:List Oper}:∀ (l:List Oper) (k:Nat) {st st':St} {s s':AS},(∀ j,l[j]? = ops[k+j]?)→runL P T E ops l st s=some (st',s')→Good s' →
    ∀ (C0:Cx) (M0:Mem) (w0:World) (a:Act) (w:World),Sim P C0 M0 w0 st a w→∀ (ro:Option Nat) (n:Nat) (Q:Exit→Act→World→Prop),(∀ a' w',Sim P C0 M0 w0 st' a' w'→Q .normal a' w')→wpOpsIn (Fen ro) n P ops.toArray Q ((List.range l.length).map (k + ·)) a w
  | [],k,st,st',s,s',_,h,g,C0,M0,w0,a,w,hs,ro,n,Q,hQ=>by
    obtain ⟨rfl,rfl⟩:=ask_pure h
    exact hQ _ _ hs
  | o::l,k,st,st',s,s',hl,h,g,C0,M0,w0,a,w,hs,ro,n,Q,hQ=>by
    obtain ⟨st1,s1,h1,k1⟩:=ask_bind h
    have h0:ops[k]? = some o:=by simpa using (hl 0).symm
    have ih:=runL_sound hT hE l (k+1) (fun j=>by have:=hl (j+1);simpa [Nat.add_assoc,Nat.add_comm 1 j] using this) k1 g C0 M0 w0
    have hst:=step_sound hT hE h1 (mono_runL.good k1 g) C0 M0 w0 a w hs ro n (wpOpsIn (Fen ro) n P ops.toArray Q ((List.range l.length).map (k+1 + ·))) Q (fun a' w' hs'=>ih a' w' hs' ro n Q hQ)
    rw [List.length_cons,List.range_succ_eq_map,List.map_cons,List.map_map]
    have hm:(List.range l.length).map ((k + ·) ∘ Nat.succ)=(List.range l.length).map (k+1 + ·):=by
      apply List.map_congr_left;intro x _;simp only [Function.comp];omega
    rw [hm,Nat.add_zero,wpOpsIn_cons]
    unfold wpOpIn
    simp only [List.getElem?_toArray,h0]
    exact hst
end
section
variable {P:Program} {T:TT} {E:Env}

theorem objAt_setAt(m:Mem)(i j:Nat)(o:AO):objAt (setAt m i (some o)) j=if i=j then some o else objAt m j:=by
  by_cases h:i=j
  · subst h
    rw [if_pos rfl,objAt_iff.2 (setAt_same m i _)]
  · rw [if_neg h]
    cases hj:objAt m j with
    | some o'=>exact objAt_iff.2 ((setAt_other m i j _ o' h).2 (objAt_inv hj))
    | none =>
      cases hj2:objAt (setAt m i (some o)) j with
      | none=>rfl
      | some o' =>
        rw [objAt_iff.2 ((setAt_other m i j _ o' h).1 (objAt_inv hj2))] at hj
        cases hj

theorem objAt_upds{m m':Mem}{j:Nat}:∀ (L:Upd),objAt m j=objAt m' j→objAt (upds m L) j=objAt (upds m' L) j
  | [],h=>h
  | (i,o)::L,h=>by
    simp only [upds]
    refine objAt_upds L ?_
    rw [objAt_setAt,objAt_setAt,h]
theorem objAt_upds_not{m:Mem}{j:Nat}:∀ (L:Upd),(∀ p∈L,p.1≠j)→objAt (upds m L) j=objAt m j
  | [],_=>rfl
  | (i,o)::L,h=>by
    simp only [upds]
    rw [objAt_upds_not L (fun p hp=>h p (List.mem_cons_of_mem _ hp)),objAt_setAt,if_neg (h (i,o) (List.mem_cons_self ..))]

theorem setAt_comm:∀ (m:Mem) (i j:Nat) (x y:Option AO),i≠j→setAt (setAt m i x) j y=setAt (setAt m j y) i x
  | [],0,0,_,_,h=>absurd rfl h
  | [],0,j+1,_,_,_=>rfl
  | [],i+1,0,_,_,_=>rfl
  | [],i+1,j+1,x,y,h=>by simp only [setAt];rw [setAt_comm [] i j x y (by omega)]
  | _::l,0,0,_,_,h=>absurd rfl h
  | _::l,0,j+1,_,_,_=>rfl
  | _::l,i+1,0,_,_,_=>rfl
  | a::l,i+1,j+1,x,y,h=>by simp only [setAt];rw [setAt_comm l i j x y (by omega)]
theorem setAt_upds{i:Nat}{x:Option AO}:∀ (L:Upd) (m:Mem),(∀ p∈L,p.1≠i)→upds (setAt m i x) L=setAt (upds m L) i x
  | [],_,_=>rfl
  | (j,o)::L,m,h=>by
    simp only [upds]
    rw [setAt_comm m i j _ _ (fun e=>h (j,o) (List.mem_cons_self ..) e.symm)]
    exact setAt_upds L _ (fun p hp=>h p (List.mem_cons_of_mem _ hp))
theorem upds_comm:∀ (L L':Upd) (m:Mem),(∀ p∈L,∀ q∈L',p.1≠q.1)→upds (upds m L) L'=upds (upds m L') L
  | [],_,_,_=>rfl
  | (i,o)::L,L',m,h=>by
    simp only [upds]
    rw [upds_comm L L' _ (fun p hp=>h p (List.mem_cons_of_mem _ hp)),setAt_upds L' m (fun q hq e=>h (i,o) (List.mem_cons_self ..) q hq e.symm)]

def Agr(m m':Mem)(ids:List Nat):Prop:=∀ id∈ids,objAt m id=objAt m' id
theorem Agr.left{m m':Mem}{a b:List Nat}(h:Agr m m' (a++b)):Agr m m' a:=fun i hi=>h i (List.mem_append_left _ hi)
theorem Agr.right{m m':Mem}{a b:List Nat}(h:Agr m m' (a++b)):Agr m m' b:=fun i hi=>h i (List.mem_append_right _ hi)
theorem Agr.upds{m m':Mem}{a:List Nat}(h:Agr m m' a)(L:Upd):Agr (upds m L) (KV.upds m' L) a:=fun i hi=>objAt_upds L (h i hi)

def refs1:AV→List Nat
  | .own id=>[id]
  | .arr id _ _=>[id]
  | .ptr id _=>[id]
  | .mp id=>[id]
  | .pa id _=>[id]
  | _=>[]
def refs:AV→List Nat
  | .agg cs=>cs.flatMap refs1
  | x=>refs1 x

section
variable {m m':Mem} {id:Nat}
theorem agr_one(h:Agr m m' [id]):objAt m id=objAt m' id:=h id (List.mem_cons_self ..)
theorem row_agr(h:objAt m id=objAt m' id):rowAt m id=rowAt m' id:=by unfold rowAt;rw [h]
theorem live_agr(h:objAt m id=objAt m' id):liveAt m id=liveAt m' id:=by unfold liveAt;rw [h]
theorem free_agr(h:objAt m id=objAt m' id):freeB m id=freeB m' id:=by unfold freeB;rw [h]
end

variable {m m':Mem}
theorem src_agr{k:Nat}{x:AV}(h:Agr m m' (refs x)):srcOf m k x=srcOf m' k x:=by
  cases x with
  | own id=>simp only [srcOf,row_agr (agr_one h)]
  | arr id off n=>simp only [srcOf,row_agr (agr_one h)]
  | p y=>cases y <;> rfl
  | _=>rfl
theorem loc_vload{t:Nat}{x:AV}(h:Agr m m' (refs x)):vload T m t x=vload T m' t x:=by
  cases x with
  | ptr id off=>simp only [vload,agr_one h]
  | _=>rfl
theorem loc_vfieldAddr{t f:Nat}{x:AV}(h:Agr m m' (refs x)):vfieldAddr T m t x f=vfieldAddr T m' t x f:=by
  cases x with
  | ptr id off=>simp only [vfieldAddr,live_agr (agr_one h)]
  | _=>rfl
theorem loc_vindexAddr{t:Nat}{x i:AV}(h:Agr m m' (refs x)):vindexAddr T m t x i=vindexAddr T m' t x i:=by
  cases x with
  | own id=>simp only [vindexAddr,row_agr (agr_one h)]
  | arr id off n=>simp only [vindexAddr,live_agr (agr_one h)]
  | ptr id off=>simp only [vindexAddr,live_agr (agr_one h)]
  | p y=>cases y <;> rfl
  | _=>rfl
theorem loc_vslice{t:Nat}{x:AV}{lo hi:Option AV}(h:Agr m m' (refs x)):vslice T m t x lo hi=vslice T m' t x lo hi:=by
  cases x with
  | own id=>simp only [vslice,row_agr (agr_one h)]
  | arr id off n=>simp only [vslice,live_agr (agr_one h)]
  | ptr id off=>simp only [vslice,live_agr (agr_one h)]
  | p y=>cases y with
    | v z=>cases z with
      | slice q n c=>cases q <;> cases n <;> cases c <;> rfl
      | _=>rfl
    | _=>rfl
  | _=>rfl
theorem loc_vlen{t:Nat}{x:AV}(h:Agr m m' (refs x)):vlen T m t x=vlen T m' t x:=by
  cases x with
  | own id=>simp only [vlen,row_agr (agr_one h)]
  | arr id off n=>simp only [vlen,live_agr (agr_one h)]
  | mp id=>simp only [vlen,agr_one h]
  | p y=>cases y with
    | v z=>cases z <;> rfl
    | _=>rfl
  | _=>rfl
theorem loc_nilCmp{op:BinOp}{t:Nat}{a b:AV}(h:Agr m m' (refs a)):nilCmp T m op t a b=nilCmp T m' op t a b:=by
  have:∀ k,nilQ m k a b=nilQ m' k a b:=fun k=>by
    cases a with
    | own id=>simp only [nilQ,row_agr (agr_one h)]
    | ptr id off=>simp only [nilQ,live_agr (agr_one h)]
    | p y =>
      unfold nilQ
      split
      · cases y with
        | v z=>cases z with
          | slice q n c=>cases q <;> cases n <;> cases c <;> rfl
          | _=>rfl
        | sl n cs=>cases cs <;> rfl
        | _=>rfl
      · cases y with
        | v z=>cases z with
          | pointer q=>cases q <;> rfl
          | _=>rfl
        | _=>rfl
      · cases y with
        | v z=>cases z <;> rfl
        | _=>rfl
      · rfl
    | _=>rfl
  unfold nilCmp;simp only [this]
theorem loc_cBin{op:BinOp}{t:Nat}{a b:AV}(h:Agr m m' (refs a)):cBin T m op t a b=cBin T m' op t a b:=by
  unfold cBin;rw [loc_nilCmp h]
theorem loc_salloc{id t:Nat}(h:Agr m m' [id]):salloc T m id t=salloc T m' id t:=by
  unfold salloc;simp only [free_agr (agr_one h)]
theorem loc_sbox{id t:Nat}{x:AV}(h:Agr m m' [id]):sbox T m id t x=sbox T m' id t x:=by
  unfold sbox;simp only [free_agr (agr_one h)]
theorem loc_smake{id t:Nat}{l c:AV}(h:Agr m m' [id]):smake T m id t l c=smake T m' id t l c:=by
  unfold smake;simp only [free_agr (agr_one h)]
theorem loc_sappend{id t t2:Nat}{x y:AV}(h:Agr m m' [id])(hx:Agr m m' (refs x))(hy:Agr m m' (refs y)):sappend T m id t t2 x y=sappend T m' id t t2 x y:=by
  cases x with
  | own id1=>simp only [sappend,free_agr (agr_one h),src_agr hy,row_agr (agr_one hx)]
  | p y=>simp only [sappend,free_agr (agr_one h),src_agr hy];cases y <;> rfl
  | _=>simp only [sappend,free_agr (agr_one h),src_agr hy]
theorem loc_scopy{t:Nat}{x y:AV}(hx:Agr m m' (refs x))(hy:Agr m m' (refs y)):scopy T m t x y=scopy T m' t x y:=by
  cases x with
  | own id1=>simp only [scopy,src_agr hy,row_agr (agr_one hx)]
  | _=>simp only [scopy,src_agr hy]
theorem loc_closeC{x:AV}(h:Agr m m' (refs1 x)):closeC m x=closeC m' x:=by
  cases x with
  | own id=>simp only [closeC,row_agr (agr_one h)]
  | _=>rfl
theorem loc_closeL:∀ {l:List AV} {m m':Mem},Agr m m' (l.flatMap refs1)→closeL m l=closeL m' l
  | [],_,_,_=>rfl
  | x::l,m,m',h=>by
    rw [List.flatMap_cons] at h
    unfold closeL
    rw [loc_closeC h.left]
    split
    · rw [loc_closeL (h.right.upds _)]
    · rfl
theorem loc_closeA{x:AV}(h:Agr m m' (refs x)):closeA m x=closeA m' x:=by
  cases x with
  | agg cs=>simp only [closeA,loc_closeL h]
  | own id=>exact loc_closeC (x := .own id) h
  | _=>rfl
theorem loc_closeP:∀ {l:List (Nat × AV)} {m m':Mem},Agr m m' (l.flatMap fun p=>refs p.2)→closeP m l=closeP m' l
  | [],_,_,_=>rfl
  | (i,x)::l,m,m',h=>by
    rw [List.flatMap_cons] at h
    have h1:closeA m x=closeA m' x:=loc_closeA h.left
    simp only [closeP,h1]
    split
    · rw [loc_closeP (h.right.upds _)]
    · rfl
theorem loc_sbuild{id t len:Nat}{l:List (Nat × AV)}(h:Agr m m' [id]):sbuild T m id t len l=sbuild T m' id t len l:=by
  unfold sbuild;simp only [free_agr (agr_one h)]
theorem loc_sbuildC{id t len:Nat}{l:List (Nat × AV)}(h:Agr m m' [id])(hl:Agr m m' (l.flatMap fun p=>refs p.2)):sbuildC T m id t len l=sbuildC T m' id t len l:=by
  unfold sbuildC;rw [loc_closeP hl]
  simp only [loc_sbuild (h.upds _)]
theorem loc_sclear{t:Nat}{x:AV}(h:Agr m m' (refs x)):sclear T m t x=sclear T m' t x:=by
  cases x with
  | arr id off n=>cases n <;> simp only [sclear,live_agr (agr_one h),row_agr (agr_one h)]
  | _=>rfl
theorem loc_mapAt{a:AV}(h:Agr m m' (refs a)):mapAt m a=mapAt m' a:=by
  cases a with
  | mp id=>simp only [mapAt,agr_one h]
  | _=>rfl
theorem loc_slook{t:Nat}{a k:AV}{ok:Bool}(h:Agr m m' (refs a)):slook P T m t a k ok=slook P T m' t a k ok:=by
  unfold slook;simp only [loc_mapAt h]
theorem loc_sput{t:Nat}{a k x:AV}(h:Agr m m' (refs a)):sput T m t a k x=sput T m' t a k x:=by
  unfold sput;simp only [loc_mapAt h]
theorem loc_smap{id:Nat}(h:Agr m m' [id]):smap m id=smap m' id:=by
  unfold smap;simp only [free_agr (agr_one h)]
theorem loc_sstore{t:Nat}{a x:AV}(h:Agr m m' (refs a)):sstore T m t a x=sstore T m' t a x:=by
  cases a with
  | ptr id off=>simp only [sstore,agr_one h]
  | _=>rfl
theorem loc_sstoreC{t:Nat}{a x:AV}(h:Agr m m' (refs a))(hx:Agr m m' (refs x)):sstoreC T m t a x=sstoreC T m' t a x:=by
  cases a with
  | ptr id off=>simp only [sstoreC,agr_one h,loc_closeA hx,loc_sstore (h.upds _),loc_sstore h]
  | _=>rfl
end
section
variable {P:Program} {T:TT} {E:Env} {C C0:Cx} {M M0:Mem} {w w0:World}

structure Ft where
  fp:Option (List Nat)
  ws:List Nat

def isFree:Op→Bool
  | .move _ | .assign _ | .pick _ _ _ | .makeFunc _ _ _ | .extract _ _ | .field _ _ _ | .convert _ _ _ | .unOp _ _ _ | .build _ _ | .index _ _ _=>true
  | _=>false
def isRead:Op→Bool
  | .load _ _ | .store _ _ _ | .nilCheck _ | .binOp _ _ _ _ _ | .slice _ _ _ _ _ | .fieldAddr _ _ _ | .indexAddr _ _ _ | .lookup _ _ _ _ | .mapUpdate _ _ _ _=>true
  | _=>false
def fpo(o:Oper)(vs:List AV)(id:Nat):Option (List Nat):=match isFree o.op with
  | true=>some []
  | false=>match isRead o.op with
    | true=>some (vs.flatMap refs)
    | false=>match o.op with
      | .call c=>match c.callee with
        | .builtin _=>some (vs.flatMap refs++[id])
        | _=>none
      | _=>some (vs.flatMap refs++[id])

theorem Agr.zip{m m':Mem}:∀ {ps:List Nat} {vs:List AV},Agr m m' (vs.flatMap refs)→Agr m m' ((ps.zip vs).flatMap fun p=>refs p.2)
  | [],_,_=>fun i hi=>by simp at hi
  | _::_,[],_=>fun i hi=>by simp at hi
  | p::ps,v::vs,h=>by
    rw [List.flatMap_cons] at h
    rw [List.zip_cons_cons,List.flatMap_cons]
    intro i hi
    rcases List.mem_append.1 hi with hi | hi
    · exact h.left i hi
    · exact Agr.zip h.right i hi

theorem Agr.hd{m m':Mem}{x:AV}{vs:List AV}(h:Agr m m' ((x::vs).flatMap refs)):Agr m m' (refs x):=by rw [List.flatMap_cons] at h;exact h.left
theorem Agr.tl{m m':Mem}{x:AV}{vs:List AV}(h:Agr m m' ((x::vs).flatMap refs)):Agr m m' (vs.flatMap refs):=by rw [List.flatMap_cons] at h;exact h.right

theorem on1_congr{vs:List AV}{f g:AV→Res}(h:∀ x,vs=[x]→f x=g x):on1 vs f=on1 vs g:=by
  unfold on1;split
  · exact h _ rfl
  · rfl
theorem on2_congr{vs:List AV}{f g:AV→AV→Res}(h:∀ x y,vs=[x,y]→f x y=g x y):on2 vs f=on2 vs g:=by
  unfold on2;split
  · exact h _ _ rfl
  · rfl
theorem on3_congr{vs:List AV}{f g:AV→AV→AV→Res}(h:∀ x y z,vs=[x,y,z]→f x y z=g x y z):on3 vs f=on3 vs g:=by
  unfold on3;split
  · exact h _ _ _ rfl
  · rfl

theorem loc_core{o:Oper}{vs:List AV}{m m':Mem}{id:Nat}{l:List Nat}(hl:fpo o vs id=some l)(h:Agr m m' l):core P T E o vs m id=core P T E o vs m' id:=by
  cases hfr:isFree o.op with
  | true =>
    unfold core
    cases hop:o.op <;> rw [hop] at hfr <;> first | rfl | cases hfr
  | false =>
  cases hrd:isRead o.op with
  | true =>
    have hA:l=vs.flatMap refs:=by
      unfold fpo at hl
      rw [hfr,hrd] at hl
      cases hl;rfl
    subst hA
    have h1:=h
    unfold core
    cases hop:o.op <;> rw [hop] at hrd <;> (try cases hrd) <;> dsimp only
    · exact on1_congr fun x e=>by subst e;rw [loc_vload h1.hd]
    · exact on2_congr fun x y e=>by subst e;rw [loc_sstoreC h1.hd h1.tl.hd]
    ·
      refine on1_congr fun x e => ?_
      subst e
      cases x with
      | ptr i off=>simp only [live_agr (agr_one h1.hd)]
      | _=>rfl
    · exact on2_congr fun x y e=>by subst e;rw [loc_cBin h1.hd]
    ·
      split
      · split
        · split
          · exact on1_congr fun x e=>by subst e;rw [loc_vslice h1.hd]
          · exact on2_congr fun x y e=>by subst e;rw [loc_vslice h1.hd]
        · split
          · exact on2_congr fun x y e=>by subst e;rw [loc_vslice h1.hd]
          · exact on3_congr fun x y z e=>by subst e;rw [loc_vslice h1.hd]
      · rfl
    · exact on1_congr fun x e=>by subst e;rw [loc_vfieldAddr h1.hd]
    · exact on2_congr fun x y e=>by subst e;rw [loc_vindexAddr h1.hd]
    · exact on2_congr fun x y e=>by subst e;rw [loc_slook h1.hd]
    · exact on3_congr fun x y z e=>by subst e;rw [loc_sput h1.hd]
  | false =>
  have hA:(∀ c f,o.op = .call c→c.callee ≠ .value f)∧l=vs.flatMap refs++[id]:=by
    unfold fpo at hl
    rw [hfr,hrd] at hl
    dsimp only at hl
    split at hl
    · rename_i c hc
      split at hl
      · rename_i b hb
        cases hl
        refine ⟨fun c' f hc' hf => ?_,rfl⟩
        rw [hc] at hc';cases hc';rw [hb] at hf;cases hf
      · cases hl
    · rename_i hn
      cases hl
      exact ⟨fun c f hc _=>hn c hc,rfl⟩
  obtain ⟨hc,rfl⟩:=hA
  have h1:=h.left
  have h2:=h.right
  unfold core
  cases hop:o.op <;> dsimp only
  case alloc=>rw [loc_salloc h2]
  case box=>exact on1_congr fun x _=>loc_sbox h2
  case buildSlice=>exact loc_sbuildC h2 (Agr.zip h1)
  case load=>exact on1_congr fun x e=>by subst e;rw [loc_vload h1.hd]
  case store=>exact on2_congr fun x y e=>by subst e;rw [loc_sstoreC h1.hd h1.tl.hd]
  case nilCheck =>
    refine on1_congr fun x e => ?_
    subst e
    cases x with
    | ptr i off=>simp only [live_agr (agr_one h1.hd)]
    | _=>rfl
  case binOp=>exact on2_congr fun x y e=>by subst e;rw [loc_cBin h1.hd]
  case makeSlice=>exact on2_congr fun x y _=>loc_smake h2
  case makeMap =>
    split
    · rw [loc_smap h2]
    · rfl
  case lookup=>exact on2_congr fun x y e=>by subst e;rw [loc_slook h1.hd]
  case mapUpdate=>exact on3_congr fun x y z e=>by subst e;rw [loc_sput h1.hd]
  case slice =>
    split
    · split
      · split
        · exact on1_congr fun x e=>by subst e;rw [loc_vslice h1.hd]
        · exact on2_congr fun x y e=>by subst e;rw [loc_vslice h1.hd]
      · split
        · exact on2_congr fun x y e=>by subst e;rw [loc_vslice h1.hd]
        · exact on3_congr fun x y z e=>by subst e;rw [loc_vslice h1.hd]
    · rfl
  case fieldAddr=>exact on1_congr fun x e=>by subst e;rw [loc_vfieldAddr h1.hd]
  case indexAddr=>exact on2_congr fun x y e=>by subst e;rw [loc_vindexAddr h1.hd]
  case call c =>
    split
    · unfold cBuiltin
      split
      · exact on1_congr fun x e=>by subst e;simp only [loc_vlen h1.hd]
      · refine on2_congr fun x y e => ?_
        subst e
        split
        · exact loc_sappend h2 h1.hd h1.tl.hd
        · rfl
      · refine on2_congr fun x y e => ?_
        subst e
        split
        · exact loc_scopy h1.hd h1.tl.hd
        · rfl
      · refine on1_congr fun x e => ?_
        subst e
        split
        · exact loc_sclear h1.hd
        · rfl
      · rfl
      · rfl
      · rfl
    · rename_i f hf
      exact absurd hf (hc c f hop)
    · rfl
  all_goals rfl

def fpc(o:Oper)(vs:List AV)(m:Mem)(id:Nat):Option (List Nat):=match o.op with
  | .call c=>match c.callee with
    | .value _=>match vs with
      | .fn _ first caps::args=>some (clos m (rfsL (first++args++caps))++[id])
      | _=>none
    | _=>none
  | _=>none
def fpm(o:Oper)(vs:List AV)(m:Mem)(id:Nat)(au:Bool):Option (List Nat):=match fpo o vs id with
  | some l=>some l
  | none=>if au then none else fpc o vs m id
theorem clos_agr{m m':Mem}{l:List Nat}(h:Agr m m' l):clos m l=clos m' l:=by
  unfold clos
  congr 1
  have:∀ l2:List Nat,(∀ i∈l2,objAt m i=objAt m' i)→(l2.flatMap fun i=>match objAt m i with
      | some (.box _ cs)=>rfsL cs
      | _=>[])=l2.flatMap fun i=>match objAt m' i with
      | some (.box _ cs)=>rfsL cs
      | _=>[]:=by
    intro l2
    induction l2 with
    | nil=>intro _;rfl
    | cons a r ih =>
      intro h2
      rw [List.flatMap_cons,List.flatMap_cons,ih fun i hi=>h2 i (List.mem_cons_of_mem _ hi),h2 a (List.mem_cons_self ..)]
  exact this l h
theorem blocks_agr{m m':Mem}:∀ {l:List Nat},Agr m m' l→blocks m l=blocks m' l
  | [],_=>rfl
  | i::r,h=>by
    unfold blocks
    rw [h i (List.mem_cons_self ..),blocks_agr fun j hj=>h j (List.mem_cons_of_mem _ hj)]
theorem loc_call{args first caps:List AV}{f:Nat}{m m':Mem}{id:Nat}{s:AS}(ha:s.auto=false)(h:Agr m m' (clos m (rfsL (first++args++caps))++[id])):cCall P E m id (.fn f first caps::args) s=cCall P E m' id (.fn f first caps::args) s:=by
  have hA:Agr m m' (rfsL (first++args++caps)):=fun i hi=>h i (List.mem_append_left _ (List.mem_append_left _ hi))
  have e1:=clos_agr hA
  have e2:blocks m (clos m (rfsL (first++args++caps)))=blocks m' (clos m (rfsL (first++args++caps))):=blocks_agr fun i hi=>h i (List.mem_append_left _ hi)
  have e3:freeB m id=freeB m' id:=free_agr (h id (List.mem_append_right _ (List.mem_singleton_self _)))
  have e4:askF P E f (first++args++caps) m id s=askF P E f (first++args++caps) m' id s:=by
    unfold askF
    rw [ha,e3,← e1,e2]
  unfold cCall
  dsimp only
  cases hk:E.ok f with
  | true=>exact e4
  | false=>rfl
theorem loc_fpc{o:Oper}{vs:List AV}{m m':Mem}{id:Nat}{l:List Nat}{s:AS}(ha:s.auto=false)(hl:fpc o vs m id=some l)(h:Agr m m' l):core P T E o vs m id s=core P T E o vs m' id s∧fpc o vs m' id=some l:=by
  unfold fpc at hl
  split at hl
  · rename_i c hop
    split at hl
    · rename_i v hc
      split at hl
      · rename_i f first caps args
        have hl:=Option.some.inj hl
        subst hl
        refine ⟨?_,?_⟩
        · unfold core
          rw [hop]
          dsimp only
          rw [hc]
          exact loc_call ha h
        · unfold fpc
          rw [hop]
          dsimp only
          rw [hc]
          dsimp only
          rw [clos_agr (fun i hi=>h i (List.mem_append_left _ (List.mem_append_left _ hi)):Agr m m' (rfsL (first++args++caps)))]
      · cases hl
    · cases hl
  · cases hl
theorem loc_coreM{o:Oper}{vs:List AV}{m m':Mem}{id:Nat}{l:List Nat}{s:AS}(hl:fpm o vs m id s.auto=some l)(h:Agr m m' l):core P T E o vs m id s=core P T E o vs m' id s∧fpm o vs m' id s.auto=some l:=by
  unfold fpm at hl ⊢
  cases hf:fpo o vs id with
  | some l2 =>
    rw [hf] at hl
    have hl:=Option.some.inj hl
    subst hl
    exact ⟨by rw [loc_core hf h],rfl⟩
  | none =>
    rw [hf] at hl
    dsimp only at hl ⊢
    cases ha:s.auto with
    | true=>rw [ha,if_pos rfl] at hl;exact absurd hl (by simp)
    | false =>
      rw [ha,if_neg (by simp)] at hl
      rw [if_neg (by simp)]
      exact loc_fpc ha hl h

theorem pk_agr{m m':Mem}{id:Nat}(h:objAt m id=objAt m' id):pkAt m id=pkAt m' id:=by unfold pkAt;rw [h]
theorem loc_pload{t:Nat}{x:AV}{m m':Mem}(h:Agr m m' (refs x)):pload T m t x=pload T m' t x:=by
  cases x with
  | pa k q=>cases q <;> simp only [pload,pk_agr (agr_one h)]
  | _=>rfl
theorem loc_pstore{t:Nat}{x y:AV}{m m':Mem}(h:Agr m m' (refs x)):pstore T m t x y=pstore T m' t x y:=by
  cases x with
  | pa k q=>cases q <;> simp only [pstore,pk_agr (agr_one h)]
  | _=>rfl
theorem loc_pindex{t:Nat}{x y:AV}{m m':Mem}(h:Agr m m' (refs x)):pindex T m t x y=pindex T m' t x y:=by
  cases x with
  | pa k q=>cases q <;> simp only [pindex,pk_agr (agr_one h)]
  | _=>rfl
theorem loc_plen{t:Nat}{x:AV}{m m':Mem}(h:Agr m m' (refs x)):plen T m t x=plen T m' t x:=by
  cases x with
  | pa k q=>cases q <;> simp only [plen,pk_agr (agr_one h)]
  | _=>rfl
theorem loc_pbuild{id t len:Nat}{l:List (Nat × AV)}{m m':Mem}(h:Agr m m' [id])(hl:Agr m m' (l.flatMap fun p=>refs p.2)):pbuild T m id t len l=pbuild T m' id t len l:=by
  have hf:=free_agr (agr_one h)
  have key:∀ k,l=[(0,.own k)]→rowAt m k=rowAt m' k:=fun k e=>by
    subst e
    exact row_agr (hl k (by simp [refs,refs1]))
  unfold pbuild
  simp only [hf]
  split
  · simp only [key _ rfl]
  · rfl
theorem loc_pappend{id t t2:Nat}{x y:AV}{m m':Mem}(h:Agr m m' [id])(hx:Agr m m' (refs x))(hy:Agr m m' (refs y)):pappend T m id t t2 x y=pappend T m' id t t2 x y:=by
  have hf:=free_agr (agr_one h)
  cases x with
  | pa k q=>cases q with
    | root=>cases y with
      | pa k2 q2=>cases q2 with
        | root=>simp only [pappend,hf,pk_agr (agr_one hx),pk_agr (agr_one hy)]
        | _=>simp only [pappend,hf]
      | _=>simp only [pappend,hf]
    | _=>simp only [pappend,hf]
  | _=>simp only [pappend,hf]
theorem loc_coreP{o:Oper}{vs:List AV}{m m':Mem}{id:Nat}(h:Agr m m' (vs.flatMap refs++[id])):coreP P T E o vs m id=coreP P T E o vs m' id:=by
  have h1:=h.left
  have h2:=h.right
  unfold coreP
  cases o.op <;> dsimp only
  case load=>exact on1_congr fun x e=>by subst e;exact loc_pload h1.hd
  case store=>exact on2_congr fun x y e=>by subst e;exact loc_pstore h1.hd
  case indexAddr=>exact on2_congr fun x y e=>by subst e;exact loc_pindex h1.hd
  case buildSlice=>exact loc_pbuild h2 h1.zip
  case call c =>
    split
    · split
      · exact on1_congr fun x e=>by subst e;simp only [loc_plen h1.hd]
      · refine on2_congr fun x y e => ?_
        subst e
        split
        · exact loc_pappend h2 h1.hd h1.tl.hd
        · rfl
      · rfl
    · split
      · have hf:=free_agr (agr_one h2)
        have:∀ f args,askFP P f args m id=askFP P f args m' id:=fun f args=>by
          unfold askFP;rw [hf]
        simp only [this]
      · rfl
    · rfl
def fpQ(o:Oper)(vs:List AV)(m:Mem)(id:Nat)(s:AS):Option (List Nat):=match s.auto,s.o,pkOp o vs with
  | false,.q::_,true=>some (vs.flatMap refs++[id])
  | _,_,_=>fpm o vs m id s.auto
theorem loc_coreQ{o:Oper}{vs:List AV}{m m':Mem}{id:Nat}{l:List Nat}{s:AS}(hl:fpQ o vs m id s=some l)(h:Agr m m' l):coreQ P T E o vs m id s=coreQ P T E o vs m' id s∧fpQ o vs m' id s=some l:=by
  obtain ⟨au,oo,ob⟩:=s
  have ord:fpm o vs m id au=some l→(∀ q,¬ (au=false∧oo = .q::q∧pkOp o vs=true))→coreQ P T E o vs m id ⟨au,oo,ob⟩=coreQ P T E o vs m' id ⟨au,oo,ob⟩∧fpQ o vs m' id ⟨au,oo,ob⟩=some l:=fun hl hn=>by
    obtain ⟨e1,e2⟩:=loc_coreM (P:=P) (T:=T) (E:=E) (s:=⟨au,oo,ob⟩) hl h
    have g:∀ k,coreQ P T E o vs k id ⟨au,oo,ob⟩=(Ask.bind (core P T E o vs k id) fun r=>Ask.bind (lift (if noPkU r.2=true then some () else none)) fun _=>pure r) ⟨au,oo,ob⟩:=fun k=>by
      unfold coreQ
      split
      · rename_i q h2 h3 h4
        exact absurd ⟨h2,h3,h4⟩ (hn q)
      · rfl
    refine ⟨?_,?_⟩
    · rw [g m,g m']
      unfold Ask.bind
      rw [e1]
    · unfold fpQ
      split
      · rename_i q h2 h3 h4
        exact absurd ⟨h2,h3,h4⟩ (hn q)
      · exact e2
  cases au with
  | true=>exact ord hl fun q h=>by cases h.1
  | false =>
    cases oo with
    | nil=>exact ord hl fun q h=>by cases h.2.1
    | cons x r =>
      cases x with
      | q =>
        cases hk:pkOp o vs with
        | true =>
          have hl:some (vs.flatMap refs++[id])=some l:=by rw [← hl];unfold fpQ;simp only [hk]
          cases hl
          refine ⟨?_,by unfold fpQ;simp only [hk]⟩
          unfold coreQ
          simp only [hk]
          rw [loc_coreP h]
        | false=>exact ord (by rw [← hl];unfold fpQ;simp only [hk]) fun q h=>by rw [hk] at h;cases h.2.2
      | _=>exact ord hl fun q h=>by cases h.2.1
def StepR(P:Program)(T:TT)(E:Env)(ops:List Oper)(o:Oper)(id:Nat)(st:St)(x:AV)(L:Upd)(F:Option (List Nat)):Prop :=
  ∃ s s1,(guardOf ops o st s=some (false,s1)∧Good s1∧x = .tup []∧L=[]∧F=some []) ∨
    (guardOf ops o st s=some (true,s1)∧∃ vs s2,evs st o.op.operands.toList=some vs∧coreQ P T E o vs st.m id s1=some ((x,L),s2)∧Good s2∧F=fpQ o vs st.m id s1)

theorem StepR.op(hT:∀ t i,T t=some i→tiOf P t=some i)(hE:EnvOK P E){ops:List Oper}{o:Oper}{id:Nat}{st:St}{x:AV}{L:Upd}{F:Option (List Nat)}(h:StepR P T E ops o id st x L F):OpOK P ops.toArray o st ⟨put st.t o.dst x,upds st.m L⟩:=by
  obtain ⟨s,s1,⟨h1,g,rfl,rfl,_⟩ | ⟨h1,vs,s2,h2,h3,g,_⟩⟩:=h
  · refine step_sound (T:=T) (E:=E) (id:=id) (s:=s) (s':=s1) hT hE ?_ g
    unfold stepOp
    show Ask.bind _ _ s=_
    unfold Ask.bind;rw [h1];rfl
  · refine step_sound (T:=T) (E:=E) (id:=id) (s:=s) (s':=s2) hT hE ?_ g
    unfold stepOp
    show Ask.bind _ _ s=_
    unfold Ask.bind;rw [h1]
    show Ask.bind _ _ s1=_
    unfold Ask.bind lift;rw [h2]
    show Ask.bind _ _ s1=_
    unfold Ask.bind;rw [h3];rfl

theorem put_get{ts:List AV}{d:Option Tmp}{x:AV}{t:Nat}(h:∀ e,d=some e→e≠t):(put ts d x)[t]? = ts[t]? := by
  cases d with
  | none=>rfl
  | some e=>exact List.getElem?_set_ne (h e rfl)
theorem ev_put{st:St}{m:Mem}{d:Option Tmp}{x:AV}{y:Operand}(h:∀ e,d=some e→y ≠ .tmp e):ev ⟨put st.t d x,m⟩ y=ev st y:=by
  cases y with
  | tmp t=>exact put_get fun e he e2=>h e he (e2 ▸ rfl)
  | const c=>cases c <;> rfl
  | _=>rfl
theorem evs_put{st:St}{m:Mem}{d:Option Tmp}{x:AV}:∀ {l:List Operand},(∀ e,d=some e → .tmp e∉l)→evs ⟨put st.t d x,m⟩ l=evs st l
  | [],_=>rfl
  | y::l,h=>by
    unfold evs
    rw [ev_put (fun e he e2=>h e he (e2 ▸ List.mem_cons_self ..)),evs_put (fun e he h2=>h e he (List.mem_cons_of_mem _ h2))]
theorem put_comm{ts:List AV}{d e:Option Tmp}{x y:AV}(h:∀ i,d=some i→e≠some i):put (put ts d x) e y=put (put ts e y) d x:=by
  cases d with
  | none=>rfl
  | some i=>cases e with
    | none=>rfl
    | some j=>exact List.set_comm _ _ fun e2=>h i rfl (e2 ▸ rfl)

theorem looks_op{ops:Array Oper}{o:Oper}{e:Tmp}(h:e∉o.looksAt ops) : .tmp e∉o.op.operands.toList:=fun h2=>h (by
  unfold Oper.looksAt
  exact List.mem_append_left _ (List.mem_filterMap.2 ⟨.tmp e,h2,rfl⟩))

theorem lift_some{α β:Type}(a:α)(f:α→Ask β):(lift (some a) >>= f)=f a:=rfl

theorem guard_put{ops:List Oper}{o:Oper}{st:St}{m:Mem}{d:Option Tmp}{x:AV}(h:∀ e,d=some e→e∉o.looksAt ops.toArray):guardOf ops o ⟨put st.t d x,m⟩=guardOf ops o st:=by
  unfold guardOf
  split
  · rfl
  · rename_i j want hg
    cases hj:ops[j]? with
    | none=>rfl
    | some oj =>
      rw [lift_some,lift_some]
      cases hd:oj.dst with
      | none=>rfl
      | some t =>
        rw [lift_some,lift_some]
        have:(put st.t d x)[t]? = st.t[t]? := put_get fun e he e2=>h e he (by
          subst e2
          unfold Oper.looksAt
          refine List.mem_append_right _ ?_
          simp [hg,hj,hd])
        simp only [this]

def okFt(a b:Ft):Bool:=(a.ws.isEmpty || (match b.fp with | some f=>a.ws.all (fun x => !f.contains x) | none=>false)) && (b.ws.isEmpty || (match a.fp with | some f=>b.ws.all (fun x => !f.contains x) | none=>false)) && a.ws.all (fun x => !b.ws.contains x)

theorem disj_agr{m:Mem}{L:Upd}{l:List Nat}(h:(L.map (·.1)).all (fun x => !l.contains x)=true):Agr m (upds m L) l:=fun i hi=>by
  refine (objAt_upds_not L fun p hp e => ?_).symm
  rw [List.all_eq_true] at h
  have:=h p.1 (List.mem_map_of_mem hp)
  simp only [Bool.not_eq_true',List.contains_eq_mem,decide_eq_false_iff_not] at this
  exact this (e ▸ hi)

theorem StepR.move{ops:List Oper}{oi oj:Oper}{idi idj:Nat}{st:St}{xi xj:AV}{Li Lj:Upd}{Fi Fj:Option (List Nat)}(hap:oi.apart ops.toArray oj=true)(hok:okFt ⟨Fi,Li.map (·.1)⟩ ⟨Fj,Lj.map (·.1)⟩=true)
    (hi:StepR P T E ops oi idi st xi Li Fi) (hj:StepR P T E ops oj idj ⟨put st.t oi.dst xi,upds st.m Li⟩ xj Lj Fj) :
    StepR P T E ops oj idj st xj Lj Fj∧StepR P T E ops oi idi ⟨put st.t oj.dst xj,upds st.m Lj⟩ xi Li Fi ∧
      put (put st.t oi.dst xi) oj.dst xj=put (put st.t oj.dst xj) oi.dst xi∧upds (upds st.m Li) Lj=upds (upds st.m Lj) Li:=by
  obtain ⟨a1,a2,a3⟩:=Oper.apart_spec hap
  unfold okFt at hok
  simp only [Bool.and_eq_true] at hok
  obtain ⟨⟨k1,k2⟩,k3⟩:=hok
  have hL:∀ p∈Li,∀ q∈Lj,p.1≠q.1:=fun p hp q hq e=>by
    rw [List.all_eq_true] at k3
    have:=k3 p.1 (List.mem_map_of_mem hp)
    simp only [Bool.not_eq_true',List.contains_eq_mem,decide_eq_false_iff_not] at this
    exact this (e ▸ List.mem_map_of_mem hq)
  refine ⟨?_,?_,put_comm a2,upds_comm Li Lj st.m hL⟩
  · obtain ⟨s,s1,⟨h1,g,rfl,rfl,h5⟩ | ⟨h1,vs,s2,h2,h3,g,h5⟩⟩:=hj
    · rw [guard_put a1] at h1
      exact ⟨s,s1,.inl ⟨h1,g,rfl,rfl,h5⟩⟩
    · rw [guard_put a1] at h1
      rw [evs_put (fun e he=>looks_op (a1 e he))] at h2
      rw [Bool.or_eq_true] at k1
      rcases k1 with k1 | k1
      · have:Li=[]:=by simpa using k1
        subst this
        exact ⟨s,s1,.inr ⟨h1,vs,s2,h2,h3,g,h5⟩⟩
      · rw [h5] at k1
        cases hf:fpQ oj vs (upds st.m Li) idj s1 with
        | none =>
          rw [hf] at k1;cases k1
        | some l =>
          rw [hf] at k1
          have hA:Agr (upds st.m Li) st.m l:=fun i hi=>(disj_agr (m:=st.m) (L:=Li) k1 i hi).symm
          obtain ⟨q1,q2⟩:=loc_coreQ (P:=P) (T:=T) (E:=E) hf hA
          exact ⟨s,s1,.inr ⟨h1,vs,s2,h2,by rw [← q1];exact h3,g,by rw [q2,← hf];exact h5⟩⟩
  · obtain ⟨s,s1,⟨h1,g,rfl,rfl,h5⟩ | ⟨h1,vs,s2,h2,h3,g,h5⟩⟩:=hi
    · exact ⟨s,s1,.inl ⟨by rw [guard_put a3];exact h1,g,rfl,rfl,h5⟩⟩
    · have h1':guardOf ops oi ⟨put st.t oj.dst xj,upds st.m Lj⟩ s=some (true,s1):=by rw [guard_put a3];exact h1
      have h2':evs ⟨put st.t oj.dst xj,upds st.m Lj⟩ oi.op.operands.toList=some vs:=by rw [evs_put (fun e he=>looks_op (a3 e he))];exact h2
      rw [Bool.or_eq_true] at k2
      rcases k2 with k2 | k2
      · have:Lj=[]:=by simpa using k2
        subst this
        exact ⟨s,s1,.inr ⟨h1',vs,s2,h2',h3,g,h5⟩⟩
      · rw [h5] at k2
        cases hf:fpQ oi vs st.m idi s1 with
        | none=>rw [hf] at k2;cases k2
        | some l =>
          rw [hf] at k2
          obtain ⟨q1,q2⟩:=loc_coreQ (P:=P) (T:=T) (E:=E) hf (disj_agr (m:=st.m) (L:=Lj) k2)
          exact ⟨s,s1,.inr ⟨h1',vs,s2,h2',by rw [← q1];exact h3,g,by rw [q2,← hf];exact h5⟩⟩
end
section
variable {P:Program} {T:TT} {E:Env} {C C0:Cx} {M M0:Mem} {w w0:World}

def cost(o:Oper):Nat:=match o.op with
  | .alloc _ | .box _ _ | .buildSlice _ _ _ | .makeSlice _ _ _=>1
  | .call c=>match c.callee with
    | .builtin _=>1
    | _=>4
  | _=>0
def ido(ops:List Oper)(base k:Nat):Nat:=base+((ops.take k).map cost).sum

abbrev Out1:=AV × Upd × Option (List Nat)
def ftOf(q:Out1):Ft:=⟨q.2.2,q.2.1.map (·.1)⟩

def askFp(o:Oper)(vs:List AV)(m:Mem)(id:Nat):Ask (Option (List Nat)):=fun s=>some (fpQ o vs m id s,s)
theorem ask_Fp{o:Oper}{vs:List AV}{m:Mem}{id:Nat}{s s':AS}{b:Option (List Nat)}(h:askFp o vs m id s=some (b,s')):b=fpQ o vs m id s∧s'=s:=by
  unfold askFp at h
  cases h
  exact ⟨rfl,rfl⟩
theorem mono_askFp{o:Oper}{vs:List AV}{m:Mem}{id:Nat}:Mono (askFp o vs m id):=fun s r s' e p hp=>by obtain ⟨_,rfl⟩:=ask_Fp e;exact hp
def runD(P:Program)(T:TT)(E:Env)(ops:List Oper):List Oper→Nat→St→Ask (List Ft × St)
  | [],_,st=>pure ([],st)
  | o::r,id,st=>do
    let go ← guardOf ops o st
    match go with
    | true=>do
      let vs ← lift (evs st o.op.operands.toList)
      let fp ← askFp o vs st.m id
      let q ← coreQ P T E o vs st.m id
      let y ← runD P T E ops r (id+cost o) ⟨put st.t o.dst q.1,upds st.m q.2⟩
      pure (⟨fp,q.2.map (·.1)⟩::y.1,y.2)
    | false=>do
      let y ← runD P T E ops r (id+cost o) ⟨put st.t o.dst (.tup []),st.m⟩
      pure (⟨some [],[]⟩::y.1,y.2)

def waitsT(ops:Array Oper):Nat→Nat→Nat→Bool
  | 0,_,_=>false
  | n+1,k,j=>match ops[j]? with
    | some oj=>(oj.after.any fun e=>Region.binds .any e && e.on == k) || oj.after.any fun e=>Region.binds .any e && waitsT ops n k e.on
    | none=>false
def restOK(ops:Array Oper)(k:Nat)(f:Ft):Nat→List Ft→Bool
  | _,[]=>true
  | j,g::r=>(okFt f g || waitsT ops 5 k j) && restOK ops k f (j+1) r
def apartL(ops:Array Oper):Nat→List Ft→Bool
  | _,[]=>true
  | k,f::r=>restOK ops k f (k+1) r && apartL ops (k+1) r

def next(o:Oper)(q:Out1)(st:St):St:=⟨put st.t o.dst q.1,upds st.m q.2.1⟩

inductive LexR (P:Program) (T:TT) (E:Env) (ops:List Oper):Nat→List Oper→St→List Out1→St→Prop
  | nil (id:Nat) (st:St):LexR P T E ops id [] st [] st
  | cons (id:Nat) (o:Oper) (l:List Oper) (st:St) (q:Out1) (os:List Out1) (fin:St) (h:StepR P T E ops o id st q.1 q.2.1 q.2.2) (hr:LexR P T E ops (id+cost o) l (next o q st) os fin):LexR P T E ops id (o::l) st (q::os) fin

theorem mono_runD{ops:List Oper}:∀ {l:List Oper} {id:Nat} {st:St},Mono (runD P T E ops l id st)
  | [],_,_=>mono_pure _
  | _::_,_,_=>by
    unfold runD
    refine mono_bind mono_guard fun _ => ?_
    split
    · exact mono_lb fun _=>mono_bind mono_askFp fun _=>mono_bind mono_coreQ fun _=>mono_bind mono_runD fun _=>mono_pure _
    · exact mono_bind mono_runD fun _=>mono_pure _

theorem runD_lex{ops:List Oper}:∀ (l:List Oper) (id:Nat) {st fin:St} {fts:List Ft} {s s':AS},runD P T E ops l id st s=some ((fts,fin),s')→Good s'→∃ os:List Out1,fts=os.map ftOf∧LexR P T E ops id l st os fin
  | [],id,st,fin,fts,s,s',h,g=>by
    obtain ⟨he,rfl⟩:=ask_pure h
    cases he
    exact ⟨[],rfl,.nil _ _⟩
  | o::l,id,st,fin,fts,s,s',h,g=>by
    unfold runD at h
    obtain ⟨go,s1,h1,k1⟩:=ask_bind h
    cases go with
    | true =>
      obtain ⟨vs,s2,h2,k2⟩:=ask_bind k1
      obtain ⟨e2,rfl⟩:=ask_lift h2
      obtain ⟨au,sa,ha,ka⟩:=ask_bind k2
      obtain ⟨rfl,rfl⟩:=ask_Fp ha
      obtain ⟨q,s3,h3,k3⟩:=ask_bind ka
      obtain ⟨y,s4,h4,k4⟩:=ask_bind k3
      obtain ⟨he,rfl⟩:=ask_pure k4
      cases he
      obtain ⟨os,e5,hl⟩:=runD_lex l _ (fts:=y.1) (fin:=y.2) h4 g
      have g3:=mono_runD.good h4 g
      exact ⟨(q.1,q.2,fpQ o vs st.m id sa)::os,by rw [List.map_cons,e5];rfl,.cons _ _ _ _ (q.1,q.2,fpQ o vs st.m id sa) _ _ ⟨s,sa,.inr ⟨h1,vs,s3,e2,h3,g3,rfl⟩⟩ hl⟩
    | false =>
      obtain ⟨y,s4,h4,k4⟩:=ask_bind k1
      obtain ⟨he,rfl⟩:=ask_pure k4
      cases he
      obtain ⟨os,e5,hl⟩:=runD_lex l _ (fts:=y.1) (fin:=y.2) h4 g
      exact ⟨(.tup [],[],some [])::os,by rw [List.map_cons,e5];rfl,.cons _ _ _ _ (.tup [],[],some []) _ _ ⟨s,s1,.inl ⟨h1,mono_runD.good h4 g,rfl,rfl,rfl⟩⟩ hl⟩

def AnyR(P:Program)(T:TT)(E:Env)(ops:List Oper)(base:Nat)(out:Nat→Out1)(fin:St):Nat→Array Bool→St→Prop
  | 0,listed,st=>Region.ready .any ops.toArray listed=[]∧st=fin
  | fuel+1,listed,st=>(Region.ready .any ops.toArray listed=[]→st=fin) ∧
    ∀ j∈Region.ready .any ops.toArray listed,∃ o,ops[j]? = some o∧StepR P T E ops o (ido ops base j) st (out j).1 (out j).2.1 (out j).2.2∧AnyR P T E ops base out fin fuel (listed.setIfInBounds j true) (next o (out j) st)

def Closed(ops:List Oper)(listed:Array Bool):Prop:=∀ j oj,ops[j]? = some oj→listed.getD j false=true→∀ e∈oj.after,Region.binds .any e=true→listed.getD e.on false=true

theorem waitsT_no{ops:List Oper}{listed:Array Bool}{i:Nat}(hc:Closed ops listed)(hi:listed.getD i false=false):∀ (n j:Nat),(∀ oj,ops[j]? = some oj→∀ e∈oj.after,Region.binds .any e=true→listed.getD e.on false=true)→waitsT ops.toArray n i j=false
  | 0,_,_=>rfl
  | n+1,j,h=>by
    unfold waitsT
    cases hj:ops[j]? with
    | none=>simp [hj]
    | some oj =>
      simp only [List.getElem?_toArray,hj,Bool.or_eq_false_iff]
      refine ⟨?_,?_⟩
      · rw [Bool.eq_false_iff]
        intro hw
        obtain ⟨e,he,hb⟩:=Array.any_eq_true'.1 hw
        simp only [Bool.and_eq_true,beq_iff_eq] at hb
        have:=h oj hj e he hb.1
        rw [hb.2,hi] at this
        cases this
      · rw [Bool.eq_false_iff]
        intro hw
        obtain ⟨e,he,hb⟩:=Array.any_eq_true'.1 hw
        simp only [Bool.and_eq_true] at hb
        have h1:=h oj hj e he hb.1
        rw [waitsT_no hc hi n e.on (fun o ho e' he' hb'=>hc e.on o ho h1 e' he' hb')] at hb
        cases hb.2

theorem closed_set{ops:List Oper}{listed:Array Bool}{j:Nat}(hc:Closed ops listed)(hj:∀ oj,ops[j]? = some oj→∀ e∈oj.after,Region.binds .any e=true→listed.getD e.on false=true):Closed ops (listed.setIfInBounds j true):=fun k ok hk hl e he hb=>by
  refine getD_set_true ?_
  by_cases h:j=k
  · subst h;exact hj ok hk e he hb
  · rw [getD_set_ne false h] at hl
    exact hc k ok hk hl e he hb

theorem AnyR.first{ops:List Oper}{base:Nat}{out:Nat→Out1}{fin:St}{i:Nat}{oi:Oper}(hi:ops[i]? = some oi):∀ (fuel:Nat) (listed:Array Bool) (st:St),
    (∀ j oj,ops[j]? = some oj→j≠i→listed.getD j true=false→(∀ e∈oj.after,Region.binds .any e=true→e.on≠i)→oi.apart ops.toArray oj=true∧(okFt (ftOf (out i)) (ftOf (out j))=true∨waitsT ops.toArray 5 i j=true))→Closed ops listed →
    i∈Region.ready .any ops.toArray listed→StepR P T E ops oi (ido ops base i) st (out i).1 (out i).2.1 (out i).2.2→AnyR P T E ops base out fin fuel (listed.setIfInBounds i true) (next oi (out i) st)→AnyR P T E ops base out fin (fuel+1) listed st:=by
  intro fuel
  induction fuel with
  | zero =>
    intro listed st _ _ hr hs H
    refine ⟨fun h=>(by rw [h] at hr;cases hr),fun j hj => ?_⟩
    by_cases hji:j=i
    · subst hji;exact ⟨oi,hi,hs,H⟩
    · have:=ready_mono hj hji
      rw [H.1] at this
      cases this
  | succ fuel ih =>
    intro listed st hfree hcl hr hs H
    refine ⟨fun h=>(by rw [h] at hr;cases hr),fun j hj => ?_⟩
    by_cases hji:j=i
    · subst hji;exact ⟨oi,hi,hs,H⟩
    · obtain ⟨oj,hoj,hsj,hH⟩:=H.2 j (ready_mono hj hji)
      obtain ⟨hjun,oj',hoj',hall⟩:=mem_ready.1 hj
      have:oj'=oj:=by
        rw [List.getElem?_toArray,hoj] at hoj'
        cases hoj';rfl
      subst this
      have hnot:∀ e∈oj'.after,Region.binds .any e=true→e.on≠i:=fun e he hb heq=>by
        have h1:=hall e he hb
        have h0:=(mem_ready.1 hr).1
        rw [heq] at h1
        rcases Nat.lt_or_ge i listed.size with h' | h'
        · simp [h'] at h0 h1;rw [h0] at h1;cases h1
        · simp [Array.getElem?_eq_none h'] at h1
      have hjun':listed.getD j true=false:=by
        rcases Nat.lt_or_ge j listed.size with h' | h'
        · simpa [h'] using hjun
        · exact hjun
      obtain ⟨hap,hok⟩:=hfree j oj' hoj hji hjun' hnot
      have hjall:∀ oj,ops[j]? = some oj→∀ e∈oj.after,Region.binds .any e=true→listed.getD e.on false=true:=fun o ho e he hb=>by
        rw [hoj] at ho;cases ho;exact hall e he hb
      have hiun:listed.getD i false=false:=by
        have h0:=(mem_ready.1 hr).1
        rcases Nat.lt_or_ge i listed.size with h' | h'
        · simp [h'] at h0 ⊢;exact h0
        · simp [Nat.not_lt.2 h']
      replace hok:=hok.resolve_right (by rw [waitsT_no hcl hiun 5 j hjall];simp)
      obtain ⟨m1,m2,m3,m4⟩:=StepR.move hap hok hs hsj
      have hnx:next oj' (out j) (next oi (out i) st)=next oi (out i) (next oj' (out j) st):=by
        unfold next;simp only [m3,m4]
      refine ⟨oj',hoj,m1,ih _ _ (fun k ok hk hki hun hno=>hfree k ok hk hki ?_ hno) (closed_set hcl hjall) (ready_mono hr (Ne.symm hji)) m2 ?_⟩
      · by_cases hjk:j=k
        · subst hjk;exact hjun'
        · rw [getD_set_ne true hjk] at hun;exact hun
      · rw [hnx,Array.setIfInBounds_comm _ _ (Ne.symm hji)] at hH
        exact hH

theorem ido_succ{ops:List Oper}{base k:Nat}{o:Oper}(h:ops[k]? = some o):ido ops base (k+1)=ido ops base k+cost o:=by
  unfold ido
  rw [List.take_add_one,h]
  simp [Nat.add_assoc]

theorem AnyR.lex{ops:List Oper}{base:Nat}{out:Nat→Out1}{fin:St}:∀ (l:List Oper) (k:Nat) (listed:Array Bool) (st:St) (os:List Out1),(∀ j,l[j]? = ops[k+j]?)→(∀ j q,os[j]? = some q→out (k+j)=q)→(∀ j,j<k→listed.getD j true=true)→Closed ops listed →
    (∀ i j,k≤i→i<j→(ops[j]?).isSome→okFt (ftOf (out i)) (ftOf (out j))=true∨waitsT ops.toArray 5 i j=true) →
    Region.lexFrom .any ops.toArray l.length k listed=true→LexR P T E ops (ido ops base k) l st os fin→AnyR P T E ops base out fin l.length listed st
  | [],k,listed,st,os,_,_,_,_,_,hB,h=>by
    cases h
    exact ⟨by simpa [Region.lexFrom] using hB,rfl⟩
  | o::l,k,listed,st,os,hl,ho,hk,hcl,hA,hB,h=>by
    cases h with
    | cons _ _ _ _ q os _ hs hr =>
      have h0:ops[k]? = some o:=by simpa using (hl 0).symm
      have hq:out k=q:=ho 0 q rfl
      simp only [List.length_cons,Region.lexFrom,Bool.and_eq_true] at hB
      obtain ⟨⟨hrd,hf⟩,hB'⟩:=hB
      have h0':ops.toArray[k]? = some o:=by rw [List.getElem?_toArray];exact h0
      have hrd':k∈Region.ready .any ops.toArray listed:=by simpa using hrd
      have hkall:∀ oj,ops[k]? = some oj→∀ e∈oj.after,Region.binds .any e=true→listed.getD e.on false=true:=fun o' ho' e he hb=>by
        obtain ⟨_,o2,ho2,hall⟩:=mem_ready.1 hrd'
        rw [h0'] at ho2;cases ho2
        rw [h0] at ho';cases ho'
        exact hall e he hb
      refine AnyR.first h0 l.length listed st (fun j oj hj hjk hun hno => ?_) hcl hrd' (by rw [hq];exact hs) ?_
      · refine ⟨Region.free_spec h0' hf j oj (by rw [List.getElem?_toArray];exact hj) hjk hun hno,?_⟩
        have hlt:k<j:=by
          rcases Nat.lt_trichotomy k j with h1 | h1 | h1
          · exact h1
          · exact absurd h1.symm hjk
          · rw [hk j h1] at hun;cases hun
        exact hA k j (Nat.le_refl _) hlt (by rw [hj];rfl)
      · rw [hq]
        refine AnyR.lex l (k+1) _ _ os (fun j=>by have:=hl (j+1);simpa [Nat.add_assoc,Nat.add_comm 1 j] using this) (fun j q' hj=>by have:=ho (j+1) q' (by simpa using hj);rw [← this];congr 1;omega) (fun j hj => ?_) (closed_set hcl hkall)
          (fun i j hi=>hA i j (by omega)) hB' (by rw [ido_succ h0];exact hr)
        by_cases e:k=j
        · subst e
          rcases Nat.lt_or_ge k listed.size with h' | h'
          · simp [h']
          · simp [Nat.not_lt.2 h']
        · rw [getD_set_ne true e];exact hk j (by omega)

theorem restOK_spec{ops:Array Oper}{k:Nat}{f:Ft}:∀ (l:List Ft) (j:Nat),restOK ops k f j l=true→∀ i g,l[i]? = some g→okFt f g=true∨waitsT ops 5 k (j+i)=true
  | [],_,_,i,g,h=>by simp at h
  | x::l,j,h,i,g,hi=>by
    unfold restOK at h
    rw [Bool.and_eq_true,Bool.or_eq_true] at h
    cases i with
    | zero=>simp at hi;subst hi;exact h.1
    | succ i =>
      have:=restOK_spec l (j+1) h.2 i g (by simpa using hi)
      rwa [show j+1+i=j+(i+1) by omega] at this
theorem apartL_spec{ops:Array Oper}:∀ (l:List Ft) (k:Nat),apartL ops k l=true→∀ i j f g,i<j→l[i]? = some f→l[j]? = some g→okFt f g=true∨waitsT ops 5 (k+i) (k+j)=true
  | [],_,_,i,j,f,g,_,h,_=>by simp at h
  | x::l,k,h,i,j,f,g,hij,hi,hj=>by
    unfold apartL at h
    rw [Bool.and_eq_true] at h
    cases j with
    | zero=>omega
    | succ j =>
      cases i with
      | zero =>
        simp at hi;subst hi
        have:=restOK_spec l (k+1) h.1 j g (by simpa using hj)
        rwa [show k+1+j=k+(j+1) by omega] at this
      | succ i =>
        have:=apartL_spec l (k+1) h.2 i j f g (by omega) (by simpa using hi) (by simpa using hj)
        rwa [show k+1+i=k+(i+1) by omega,show k+1+j=k+(j+1) by omega] at this

theorem AnyR.sound(hT:∀ t i,T t=some i→tiOf P t=some i)(hE:EnvOK P E){ops:List Oper}{base:Nat}{out:Nat→Out1}{fin:St}{ro:Option Nat}{n:Nat}{Q:Exit→Act→World→Prop}(hQ:∀ a' w',Sim P C0 M0 w0 fin a' w'→Q .normal a' w') :
    ∀ (fuel:Nat) (listed:Array Bool) (st:St) (a:Act) (w:World),AnyR P T E ops base out fin fuel listed st→Sim P C0 M0 w0 st a w→wpAnyIn (Fen ro) n P .any ops.toArray Q fuel listed a w
  | 0,listed,st,a,w,h,hs=>⟨h.1,hQ _ _ (h.2 ▸ hs)⟩
  | fuel+1,listed,st,a,w,h,hs=>by
    refine ⟨fun h0=>hQ _ _ (h.1 h0 ▸ hs),fun j hj => ?_⟩
    obtain ⟨o,ho,hst,hr⟩:=h.2 j hj
    have:=hst.op hT hE C0 M0 w0 a w hs ro n (wpAnyIn (Fen ro) n P .any ops.toArray Q fuel (listed.setIfInBounds j true)) Q (fun a' w' hs'=>AnyR.sound hT hE hQ fuel _ _ _ _ hr hs')
    unfold wpOpIn
    simp only [List.getElem?_toArray,ho]
    exact this
end
section
variable {P:Program} {T:TT} {E:Env} {C C0:Cx} {M M0:Mem} {w w0:World}

mutual
def fzA(id n:Nat)(cs:List PV):AV→AV
  | .own i=>match Nat.beq i id with
    | true => .p (.sl n cs)
    | false => .own i
  | .arr i off k=>match Nat.beq i id with
    | true => .p (.sl k ((cs.drop off).take (k*(cs.length / n))))
    | false => .arr i off k
  | .ptr i off=>match Nat.beq i id with
    | true => .rp cs off
    | false => .ptr i off
  | .agg l=>ofCells (fzL id n cs l)
  | .tup l => .tup (fzL id n cs l)
  | .fn f a b => .fn f (fzL id n cs a) (fzL id n cs b)
  | .p x => .p x
  | .rp cs o => .rp cs o
  | .yld l => .yld l
  | .kb b => .kb b
  | .mp i => .mp i
  | .pa i q => .pa i q
  | .any => .any
def fzL(id n:Nat)(cs:List PV):List AV→List AV
  | []=>[]
  | x::r=>fzA id n cs x::fzL id n cs r
end

theorem fzL_len(id n:Nat)(cs:List PV):∀ l:List AV,(fzL id n cs l).length=l.length
  | []=>by simp [fzL]
  | x::r=>by simp [fzL,fzL_len id n cs r]

section
variable {id ty n:Nat} {cs:List PV} (hM:MemOK P C M w) (ho:M[id]? = some (some (.row ty n cs)))
include hM ho
mutual
theorem fzA_sound:∀ {x:AV} {u:Value},Rep C M w x u→Rep (C.close id true) (setAt M id (some .dead)) w (fzA id n cs x) u
  | .own i,u,h=>by
    have hL:=hM.le (fr_kill true ho rfl)
    simp only [fzA]
    split
    · rename_i hb
      have:=Nat.eq_of_beq_eq_true hb
      subst this
      exact .p _ _ (closed_row hM ho h)
    · exact h.mono hL
  | .arr i off k,u,h=>by
    have hL:=hM.le (fr_kill true ho rfl)
    simp only [fzA]
    split
    · rename_i hb
      have:=Nat.eq_of_beq_eq_true hb
      subst this
      cases h with
      | arr _ _ _ u h0 ha hrow =>
        rcases hrow _ ho rfl with ⟨rfl,p,cap,rfl,hc⟩ | ⟨b,cap,rfl,hn,hc,hb⟩
        · rw [Nat.zero_mul,List.take_zero]
          exact .p _ _ (.sl 0 [] p cap (fun _=>undef) (Nat.zero_le _) hc (fun i h=>by simp at h) (fun i h=>by simp at h) (fun i h=>by simp at h))
        · rcases hM.row _ _ _ _ ho with ⟨hn',_⟩ | ⟨b',arr,inf,hb',q1,q2,q3,q4,q5,q6,q7,q8⟩
          · rw [hb] at hn';cases hn'
          · rw [hb] at hb';cases hb'
            have hle:cs.length≤arr.size:=by rw [q3,q4];exact Nat.mul_le_mul_right _ q5
            have hlt:∀ i,i<((cs.drop off).take (k*(cs.length / n))).length→off+i<cs.length:=fun i hi=>by simp at hi;omega
            refine .p _ _ (.sl k _ _ cap (fun j=>arr.getD (off+j) undef) hn hc (fun j hj=>⟨b,off,rfl,.inr ⟨rfl,hb⟩,cell_of_heap q1 (by have:=hlt j hj;omega)⟩) (fun j hj => ?_) (fun j hj=>q8 _ (hlt j hj)))
            simp only [List.getElem_take,List.getElem_drop]
            exact (q7 _ (hlt j hj)).mono (fun _ h => .inl h) (fun _ _=>rfl)
    · exact h.mono hL
  | .ptr i off,u,h=>by
    have hL:=hM.le (fr_kill true ho rfl)
    simp only [fzA]
    split
    · rename_i hb
      have:=Nat.eq_of_beq_eq_true hb
      subst this
      obtain ⟨b,rfl,hb⟩:=ptr_live h (live_of ho rfl)
      rcases hM.row _ _ _ _ ho with ⟨hn,_⟩ | ⟨b',arr,inf,hb',q1,q2,q3,q4,q5,q6,q7,q8⟩
      · rw [hb] at hn;cases hn
      · rw [hb] at hb';cases hb'
        have hle:cs.length≤arr.size:=by rw [q3,q4];exact Nat.mul_le_mul_right _ q5
        have:=Rep.rp (C:=C.close i true) (M:=setAt M i (some .dead)) (w:=w) cs off b 0 (fun j=>arr.getD j undef) (fun i hi=>⟨.inr ⟨rfl,hb⟩,by rw [Nat.zero_add];exact cell_of_heap q1 (by omega)⟩) (fun i hi=>(q7 i hi).mono (fun _ h => .inl h) (fun _ _=>rfl)) q8
        rwa [Nat.zero_add] at this
    · exact h.mono hL
  | .agg l,u,h=>by
    cases h with
    | agg _ vs h0 h1 h2 =>
      simp only [fzA]
      obtain ⟨q1,q2⟩:=fzL_sound (us:=fun i=>vs.getD i undef) h2
      exact ofCells_rep (fun i hi=>h0 i (by omega)) (by omega) q2
  | .tup l,u,h=>by
    cases h with
    | tup _ vs h1 h2 =>
      simp only [fzA]
      obtain ⟨q1,q2⟩:=fzL_sound (us:=fun i=>vs.getD i undef) h2
      exact .tup _ _ (by omega) q2
  | .fn f a b,u,h=>by
    cases h with
    | fn _ _ _ us vs h1 h2 h3 h4 =>
      simp only [fzA]
      obtain ⟨q1,q2⟩:=fzL_sound (us:=fun i=>us.getD i undef) h3
      obtain ⟨r1,r2⟩:=fzL_sound (us:=fun i=>vs.getD i undef) h4
      exact .fn f _ _ us vs (by omega) (by omega) q2 r2
  | .p x,u,h=>by simp only [fzA];exact h.mono (hM.le (fr_kill true ho rfl))
  | .rp cs o,u,h=>by simp only [fzA];exact h.mono (hM.le (fr_kill true ho rfl))
  | .yld l,u,h=>by simp only [fzA];exact h.mono (hM.le (fr_kill true ho rfl))
  | .kb b,u,h=>by simp only [fzA];exact h.mono (hM.le (fr_kill true ho rfl))
  | .mp i,u,h=>by simp only [fzA];exact h.mono (hM.le (fr_kill true ho rfl))
  | .pa i q,u,h=>by simp only [fzA];exact h.mono (hM.le (fr_kill true ho rfl))
  | .any,u,h=>by simp only [fzA];exact .any _
theorem fzL_sound:∀ {l:List AV} {us:Nat→Value},(∀ i (h:i<l.length),Rep C M w l[i] (us i))→(fzL id n cs l).length=l.length∧∀ i (h:i<(fzL id n cs l).length),Rep (C.close id true) (setAt M id (some .dead)) w (fzL id n cs l)[i] (us i)
  | [],_,_=>⟨fzL_len ..,  fun i h=>by simp [fzL] at h⟩
  | x::r,us,h=>by
    refine ⟨fzL_len ..,fun i hi => ?_⟩
    have:=hM
    have:=ho
    obtain ⟨_,q2⟩:=fzL_sound (l:=r) (us:=fun i=>us (i+1)) (fun i hi=>h (i+1) (by simpa using hi))
    have e:fzL id n cs (x::r)=fzA id n cs x::fzL id n cs r:=by simp only [fzL]
    simp only [e]
    cases i with
    | zero=>exact fzA_sound (h 0 (by simp))
    | succ i=>exact q2 i (by simpa [fzL_len] using hi)
end
end

def fzO(id n:Nat)(cs:List PV):Option AO→Option AO
  | some (.box ty l)=>some (.box ty (fzL id n cs l))
  | x=>x
def fz1(id:Nat)(st:St):Option St:=match rowAt st.m id with
  | some r=>some ⟨fzL id r.2.1 r.2.2 st.t,(setAt st.m id (some .dead)).map (fzO id r.2.1 r.2.2)⟩
  | none=>none

theorem map_fzO{id n:Nat}{cs:List PV}{m:Mem}{j:Nat}{o':AO}(h:(m.map (fzO id n cs))[j]? = some (some o')):∃ o,m[j]? = some (some o)∧fzO id n cs (some o)=some o':=by
  rw [List.getElem?_map] at h
  cases hm:m[j]? with
  | none=>rw [hm] at h;cases h
  | some x =>
    rw [hm] at h
    cases x with
    | none=>simp [fzO] at h
    | some o=>exact ⟨o,rfl,by simpa using h⟩
theorem fzO_row{id n:Nat}{cs:List PV}{o:AO}{ty k:Nat}{ds:List PV}(h:fzO id n cs (some o)=some (.row ty k ds)):o = .row ty k ds:=by cases o <;> simp [fzO] at h ⊢;exact h
theorem fzO_live{id n:Nat}{cs:List PV}{o o':AO}(h:fzO id n cs (some o)=some o'):o'.live=o.live:=by cases o <;> (simp [fzO] at h;subst h;rfl)

theorem fz1_sound{id:Nat}{st st':St}{a:Act}(hf:fz1 id st=some st')(hs:Sim P C0 M0 w0 st a w):Sim P C0 M0 w0 st' a w:=by
  obtain ⟨C,hS,hM,hF,hD⟩:=hs
  unfold fz1 at hf
  split at hf
  · rename_i r hr
    cases hf
    have ho:=rowAt_inv hr
    have hk:=fr_kill (C:=C) (w:=w) true ho rfl
    have hm:=mem_kill hM true ho rfl
    have hL:Le (C.close id true) (C.close id true) (setAt st.m id (some .dead)) ((setAt st.m id (some .dead)).map (fzO id r.2.1 r.2.2)) w w:=by
      refine ⟨fun i o h => ?_,fun i o h ty n cs hm => ?_,fun i o h o' hm hl => ?_,fun _ h=>h,fun _ _=>rfl⟩
      · rw [List.getElem?_map,h]
        cases o <;> exact ⟨_,rfl⟩
      · obtain ⟨o2,h2,h3⟩:=map_fzO hm
        rw [fzO_row h3] at h2
        exact ⟨_,h2⟩
      · obtain ⟨o2,h2,h3⟩:=map_fzO hm
        rw [h] at h2;cases h2
        exact ⟨by rw [← fzO_live h3];exact hl,rfl,rfl⟩
    have hf2:Fr (C.close id true) (setAt st.m id (some .dead)) w (C.close id true) ((setAt st.m id (some .dead)).map (fzO id r.2.1 r.2.2)) w:=by
      refine ⟨rfl,rfl,rfl,Nat.le_refl _,fun _ _ _=>rfl,fun i o h=>⟨hL.ids i o h,rfl,rfl⟩,hL.row,fun i o h o' hm hl=>(hL.liv i o h o' hm hl).1,fun i o b h hl hb => ?_,fun _ h=>h,fun _ h => .inl h⟩
      obtain ⟨o2,h2,h3⟩:=map_fzO h
      exact .inr ⟨i,o2,h2,by rw [← fzO_live h3];exact hl,hb⟩
    refine ⟨C.close id true,⟨?_,fun i hi => ?_⟩,⟨fun i ty n cs h => ?_,fun i ty cs h => ?_,fun i es cl h => ?_,fun i i' o1 o2 b h1 l1 h2 l2 => ?_,fun i o b h hl => ?_,hm.Fs,fun i o b h hl => ?_⟩,(hF.trans hk).trans hf2,(hD.fr hM (pkSame_set rfl) hk).fr hm (fun i to ti sz L q=>by
      obtain ⟨o2,h2,h3⟩:=map_fzO q
      cases o2 with
      | pk=>simp only [fzO,Option.some.injEq] at h3;rw [← h3];exact h2
      | _=>simp [fzO] at h3) hf2⟩
    · rw [fzL_len];exact hS.size
    · exact ((fzL_sound hM ho hS.rep).2 i hi).mono hL
    · obtain ⟨o2,h2,h3⟩:=map_fzO h
      rw [fzO_row h3] at h2
      exact hm.row _ _ _ _ h2
    · obtain ⟨o2,h2,h3⟩:=map_fzO h
      cases o2 with
      | box ty' l =>
        simp only [fzO,Option.some.injEq,AO.box.injEq] at h3
        obtain ⟨rfl,rfl⟩:=h3
        have hne:i≠id:=fun e=>by
          subst e
          rw [setAt_same] at h2;cases h2
        obtain ⟨b,arr,q0,q1,q2,q3,q4⟩:=hM.box _ _ _ ((setAt_other st.m id i _ _ (Ne.symm hne)).1 h2)
        obtain ⟨r1,r2⟩:=fzL_sound hM ho (us:=fun j=>arr.getD j undef) q3
        exact ⟨b,arr,q0,q1,by rw [r1];exact q2,fun j hj=>(r2 j hj).mono hL,fun j hj=>q4 j (by rw [r1] at hj;exact hj)⟩
      | row=>simp [fzO] at h3
      | mp=>simp [fzO] at h3
      | pk=>simp [fzO] at h3
      | dead=>simp [fzO] at h3
    · obtain ⟨o2,h2,h3⟩:=map_fzO h
      have:o2 = .mp es cl:=by cases o2 <;> simp [fzO] at h3 ⊢;exact h3
      subst this
      obtain ⟨b,arr,q0,q1,q2,q3⟩:=hm.mp _ _ _ h2
      refine ⟨b,arr,q0,q1,q2,fun j hj => ?_⟩
      obtain ⟨en,r1,r2,r3,r4⟩:=q3 j hj
      exact ⟨en,r1,r2,r3,r4.mono hL.F hL.fz⟩
    · obtain ⟨o3,h3,h4⟩:=map_fzO h1
      obtain ⟨o5,h5,h6⟩:=map_fzO h2
      exact hm.inj i i' o3 o5 b h3 (by rw [← fzO_live h4];exact l1) h5 (by rw [← fzO_live h6];exact l2)
    · obtain ⟨o3,h3,h4⟩:=map_fzO h
      exact hm.nF i o3 b h3 (by rw [← fzO_live h4];exact hl)
    · obtain ⟨o3,h3,h4⟩:=map_fzO h
      exact hm.lt i o3 b h3 (by rw [← fzO_live h4];exact hl)
  · cases hf

def forget:List Nat→List AV→List AV
  | [],l=>l
  | i::r,l=>forget r (l.set i .any)
theorem forget_slots:∀ (g:List Nat) {ts:List AV} {us:Array Value},Slots C M w ts us→Slots C M w (forget g ts) us
  | [],_,_,h=>h
  | i::r,ts,us,h=>by
    refine forget_slots r ⟨by simpa using h.size,fun j hj => ?_⟩
    simp only [List.length_set] at hj
    rw [List.getElem_set]
    split
    · exact .any _
    · exact h.rep j hj
theorem forget_sound(g:List Nat){st:St}{a:Act}(hs:Sim P C0 M0 w0 st a w):Sim P C0 M0 w0 ⟨forget g st.t,st.m⟩ a w:=by
  obtain ⟨C,hS,hM,hF,hD⟩:=hs
  exact ⟨C,forget_slots g hS,hM,hF,hD⟩
end
section
variable {P:Program} {T:TT} {E:Env} {C C0:Cx} {M M0:Mem} {w w0:World}

mutual
def cpA(id:Nat)(y:PV):AV→AV
  | .pa i q=>match Nat.beq i id with
    | true=>match q with
      | .root => .p y
      | _ => .any
    | false => .pa i q
  | .agg l=>ofCells (cpL id y l)
  | .tup l => .tup (cpL id y l)
  | .fn f a b => .fn f (cpL id y a) (cpL id y b)
  | .own i => .own i
  | .arr i off k => .arr i off k
  | .ptr i off => .ptr i off
  | .p x => .p x
  | .rp cs o => .rp cs o
  | .yld l => .yld l
  | .kb b => .kb b
  | .mp i => .mp i
  | .any => .any
def cpL(id:Nat)(y:PV):List AV→List AV
  | []=>[]
  | x::r=>cpA id y x::cpL id y r
end
theorem cpL_len(id:Nat)(y:PV):∀ l:List AV,(cpL id y l).length=l.length
  | []=>by simp [cpL]
  | x::r=>by simp [cpL,cpL_len id y r]
def Cx.shut(C:Cx)(id:Nat):Cx:={ ι:=C.ι,κ:=C.κ,F:=fun b=>C.F b∨PBlk (C.κ id) b }
def slL(L:List (Nat × List PV)):PV := .sl L.length (L.map fun r => .sl r.1 r.2)

section
variable {id to ti sz:Nat} {L:List (Nat × List PV)}
theorem closed_pk(q:PkOK C M w id to ti sz L)(F:Nat→Prop)(hF:∀ b,C.F b→F b)(hP:∀ b,PBlk (C.κ id) b→F b):RepP F w (slL L) (pqV (C.κ id) .root):=by
  unfold slL
  show RepP F w _ (if pkC (C.κ id)=0 then .slice none 0 0 else .slice (some ⟨pkB (C.κ id),0,none⟩) (pkN (C.κ id)) (pkC (C.κ id)))
  split
  · rename_i hc
    have hl:L.length=0:=by have:=q.n;have:=q.nc;omega
    have:L=[]:=List.eq_nil_of_length_eq_zero hl
    subst this
    exact .sl 0 [] none 0 (fun _=>undef) (Nat.le_refl _) (by simp [maxLen]) (fun i hi=>by simp at hi) (fun i hi=>by simp at hi) (fun i hi=>by simp at hi)
  · rename_i hc
    obtain ⟨arr,q1,q2,q3⟩:=q.out hc
    rw [q.n]
    refine .sl _ _ _ _ (fun i=>arr.getD i undef) (by rw [← q.n];exact q.nc) q.cm (fun i hi => ?_) (fun i hi => ?_) (fun i hi => ?_)
    · simp only [List.length_map] at hi
      exact ⟨_,_,rfl,hP _ (.inl ⟨hc,rfl⟩),by rw [Nat.zero_add];exact cell_of_heap q1 (by have:=q.n;have:=q.nc;omega)⟩
    · simp only [List.length_map] at hi
      rw [q3 i (by rw [q.n];exact hi),List.getElem_map]
      obtain ⟨r1,r2,r3,ar,r4,r5,r6,r7,r8⟩:=q.row i hi
      show RepP F w _ (.slice (some ⟨rkB (C.κ id) i,0,none⟩) (rkN (C.κ id) i) (rkC (C.κ id) i))
      rw [r1] at r2 r6 ⊢
      have hle:(L[i].2).length≤ar.size:=by rw [r5,r6];exact Nat.mul_le_mul_right _ r2
      exact .sl _ _ _ _ (fun j=>ar.getD j undef) r2 r3 (fun j hj=>⟨_,_,rfl,hP _ (.inr ⟨i,by rw [q.n];exact hi,rfl⟩),by rw [Nat.zero_add];exact cell_of_heap r4 (by omega)⟩) (fun j hj=>(r7 j hj).mono hF (fun _ _=>rfl)) r8
    · simp only [List.length_map] at hi
      rw [q3 i (by rw [q.n];exact hi)]
      exact pqV_one _ _
variable (q:PkOK C M w id to ti sz L) (ho:M[id]? = some (some (.pk to ti sz L))) (hL:Le C (C.shut id) M (setAt M id (some .dead)) w w)
include q ho hL
set_option linter.unusedSectionVars false in
mutual
theorem cpA_sound:∀ {x:AV} {u:Value},Rep C M w x u→Rep (C.shut id) (setAt M id (some .dead)) w (cpA id (slL L) x) u
  | .pa i p,u,h=>by
    simp only [cpA]
    split
    · rename_i hb
      have:=Nat.eq_of_beq_eq_true hb
      subst this
      cases p with
      | root =>
        have hu:u=pqV (C.κ i) .root:=by
          cases h with
          | pa _ _ _ h0 ha h=>exact h _ ho rfl
        subst hu
        exact .p _ _ (closed_pk q _ (fun _ h => .inl h) (fun _ h => .inr h))
      | _=>exact .any _
    · exact h.mono hL
  | .agg l,u,h=>by
    cases h with
    | agg _ vs h0 h1 h2 =>
      simp only [cpA]
      obtain ⟨q1,q2⟩:=cpL_sound (us:=fun i=>vs.getD i undef) h2
      exact ofCells_rep (fun i hi=>h0 i (by omega)) (by omega) q2
  | .tup l,u,h=>by
    cases h with
    | tup _ vs h1 h2 =>
      simp only [cpA]
      obtain ⟨q1,q2⟩:=cpL_sound (us:=fun i=>vs.getD i undef) h2
      exact .tup _ _ (by omega) q2
  | .fn f a b,u,h=>by
    cases h with
    | fn _ _ _ us vs h1 h2 h3 h4 =>
      simp only [cpA]
      obtain ⟨q1,q2⟩:=cpL_sound (us:=fun i=>us.getD i undef) h3
      obtain ⟨r1,r2⟩:=cpL_sound (us:=fun i=>vs.getD i undef) h4
      exact .fn f _ _ us vs (by omega) (by omega) q2 r2
  | .own i,u,h=>by simp only [cpA];exact h.mono hL
  | .arr i off k,u,h=>by simp only [cpA];exact h.mono hL
  | .ptr i off,u,h=>by simp only [cpA];exact h.mono hL
  | .p x,u,h=>by simp only [cpA];exact h.mono hL
  | .rp cs o,u,h=>by simp only [cpA];exact h.mono hL
  | .yld l,u,h=>by simp only [cpA];exact h.mono hL
  | .kb b,u,h=>by simp only [cpA];exact h.mono hL
  | .mp i,u,h=>by simp only [cpA];exact h.mono hL
  | .any,u,h=>by simp only [cpA];exact .any _
theorem cpL_sound:∀ {l:List AV} {us:Nat→Value},(∀ i (h:i<l.length),Rep C M w l[i] (us i))→(cpL id (slL L) l).length=l.length∧∀ i (h:i<(cpL id (slL L) l).length),Rep (C.shut id) (setAt M id (some .dead)) w (cpL id (slL L) l)[i] (us i)
  | [],_,_=>⟨cpL_len ..,  fun i h=>by simp [cpL] at h⟩
  | x::r,us,h=>by
    refine ⟨cpL_len ..,fun i hi => ?_⟩
    obtain ⟨_,q2⟩:=cpL_sound (l:=r) (us:=fun i=>us (i+1)) (fun i hi=>h (i+1) (by simpa using hi))
    have e:cpL id (slL L) (x::r)=cpA id (slL L) x::cpL id (slL L) r:=by simp only [cpL]
    simp only [e]
    cases i with
    | zero=>exact cpA_sound (h 0 (by simp))
    | succ i=>exact q2 i (by simpa [cpL_len] using hi)
end
end

def cpO(id:Nat)(y:PV):Option AO→Option AO
  | some (.box ty l)=>some (.box ty (cpL id y l))
  | x=>x
def fzP(id:Nat)(st:St):Option St:=match pkAt st.m id with
  | some r=>some ⟨cpL id (slL r.2.2.2) st.t,(setAt st.m id (some .dead)).map (cpO id (slL r.2.2.2))⟩
  | none=>none
theorem map_cpO{id:Nat}{y:PV}{m:Mem}{j:Nat}{o':AO}(h:(m.map (cpO id y))[j]? = some (some o')):∃ o,m[j]? = some (some o)∧cpO id y (some o)=some o':=by
  rw [List.getElem?_map] at h
  cases hm:m[j]? with
  | none=>rw [hm] at h;cases h
  | some x =>
    rw [hm] at h
    cases x with
    | none=>simp [cpO] at h
    | some o=>exact ⟨o,rfl,by simpa using h⟩
theorem cpO_eq{id:Nat}{y:PV}{o o':AO}(h:cpO id y (some o)=some o'):(∃ ty l,o = .box ty l∧o' = .box ty (cpL id y l))∨((∀ ty l,o ≠ .box ty l)∧o'=o):=by
  cases o with
  | box ty l=>simp only [cpO,Option.some.injEq] at h;exact .inl ⟨ty,l,rfl,h.symm⟩
  | _=>simp only [cpO,Option.some.injEq] at h;exact .inr ⟨fun _ _ e=>(by cases e),h.symm⟩

theorem fzP_sound{id:Nat}{st st':St}{a:Act}(h:fzP id st=some st')(hs:Sim P C0 M0 w0 st a w):Sim P C0 M0 w0 st' a w:=by
  obtain ⟨C,hS,hM,hF,hD⟩:=hs
  unfold fzP at h
  split at h
  rotate_left
  · cases h
  rename_i r hr
  cases h
  have ho:=pkAt_inv hr
  obtain ⟨to,ti,sz,L⟩:=r
  dsimp only at ho ⊢
  obtain ⟨q,q0,q1⟩:=hD.2.2.1 _ _ _ _ _ ho
  have old:∀ (i:Nat) (o':AO),((setAt st.m id (some .dead)).map (cpO id (slL L)))[i]? = some (some o')→o'.live=true→∃ o,i≠id∧st.m[i]? = some (some o)∧cpO id (slL L) (some o)=some o':=fun i o' hm hl=>by
    obtain ⟨o,h2,h3⟩:=map_cpO hm
    by_cases e:i=id
    · subst e
      rw [setAt_same] at h2;cases h2
      simp only [cpO,Option.some.injEq] at h3
      subst h3;cases hl
    · exact ⟨o,e,(setAt_other st.m id i _ _ (Ne.symm e)).1 h2,h3⟩
  have olv:∀ (o o':AO),cpO id (slL L) (some o)=some o'→o'.live=o.live:=fun o o' h=>by
    rcases cpO_eq h with ⟨ty,l,rfl,rfl⟩ | ⟨_,rfl⟩ <;> rfl
  have hids:∀ (i:Nat) (o:AO),st.m[i]? = some (some o)→∃ o',((setAt st.m id (some .dead)).map (cpO id (slL L)))[i]? = some (some o'):=fun i o h=>by
    rw [List.getElem?_map]
    by_cases e:i=id
    · subst e;rw [setAt_same];exact ⟨.dead,rfl⟩
    · rw [(setAt_other st.m id i _ _ (Ne.symm e)).2 h]
      cases o <;> exact ⟨_,rfl⟩
  have hrow:∀ (i:Nat) (o:AO),st.m[i]? = some (some o)→∀ ty n cs,((setAt st.m id (some .dead)).map (cpO id (slL L)))[i]? = some (some (.row ty n cs))→∃ cs',st.m[i]? = some (some (.row ty n cs')):=fun i o _ ty n cs hm=>by
    obtain ⟨o2,_,h2,h3⟩:=old i _ hm rfl
    rcases cpO_eq h3 with ⟨_,_,_,e⟩ | ⟨_,rfl⟩
    · cases e
    · exact ⟨cs,h2⟩
  have hl2:∀ (i:Nat) (o:AO),st.m[i]? = some (some o)→∀ (o':AO),((setAt st.m id (some .dead)).map (cpO id (slL L)))[i]? = some (some o')→o'.live=true→o.live=true:=fun i o h o' hm hl=>by
    obtain ⟨o2,_,h2,h3⟩:=old i _ hm hl
    rw [h] at h2;cases h2
    rw [← olv _ _ h3];exact hl
  have hle:Le C (C.shut id) st.m ((setAt st.m id (some .dead)).map (cpO id (slL L))) w w:=⟨hids,hrow,fun i o h o' hm hl=>⟨hl2 i o h o' hm hl,rfl,rfl⟩,fun _ h => .inl h,fun _ _=>rfl⟩
  have hle1:Le C (C.shut id) st.m (setAt st.m id (some .dead)) w w:=by
    refine ⟨fun i o h => ?_,fun i o h ty n cs hm => ?_,fun i o h o' hm hl => ?_,fun _ h => .inl h,fun _ _=>rfl⟩
    · by_cases e:i=id
      · subst e;exact ⟨_,setAt_same ..⟩
      · exact ⟨o,(setAt_other st.m id i _ _ (Ne.symm e)).2 h⟩
    · by_cases e:i=id
      · subst e;rw [setAt_same] at hm;cases hm
      · exact ⟨cs,(setAt_other st.m id i _ _ (Ne.symm e)).1 hm⟩
    · by_cases e:i=id
      · subst e;rw [setAt_same] at hm;cases hm;cases hl
      · have:=(setAt_other st.m id i _ _ (Ne.symm e)).1 hm
        rw [h] at this;cases this
        exact ⟨hl,rfl,rfl⟩
  have hle2:Le (C.shut id) (C.shut id) (setAt st.m id (some .dead)) ((setAt st.m id (some .dead)).map (cpO id (slL L))) w w:=by
    refine ⟨fun i o h => ?_,fun i o h ty n cs hm => ?_,fun i o h o' hm hl => ?_,fun _ h=>h,fun _ _=>rfl⟩
    · rw [List.getElem?_map,h]
      cases o <;> exact ⟨_,rfl⟩
    · obtain ⟨o2,h2,h3⟩:=map_cpO hm
      rcases cpO_eq h3 with ⟨_,_,_,e⟩ | ⟨_,rfl⟩
      · cases e
      · exact ⟨cs,h2⟩
    · obtain ⟨o2,h2,h3⟩:=map_cpO hm
      rw [h] at h2;cases h2
      exact ⟨by rw [← olv _ _ h3];exact hl,rfl,rfl⟩
  have hcl:=fun (l:List AV) (us:Nat→Value) (h:∀ i (hi:i<l.length),Rep C st.m w l[i] (us i))=>cpL_sound q ho hle1 h
  have hcell:∀ b,PBlk (C.κ id) b→∃ arr ty,w.heap[b]? = some (.cells arr ty (0,0)):=fun b hb=>(q.lt hb).2
  refine ⟨C.shut id,⟨by rw [cpL_len];exact hS.size,fun i hi=>((hcl st.t (fun i=>a.tmps.getD i undef) hS.rep).2 i hi).mono hle2⟩,⟨fun i ty n cs hm => ?_,fun i ty cs hm => ?_,fun i es cl hm => ?_,fun i i' o1 o2 b h1 l1 h2 l2 e1 e2 => ?_,fun i o b hm hl hb => ?_,fun b hb => ?_,fun i o b hm hl hb => ?_⟩,
    ⟨hF.os,hF.tape,hF.out,hF.size,hF.keep,fun i o h => ?_,fun i o h ty n cs hm => ?_,fun i o h o' hm hl => ?_,fun i o b hm hl hb => ?_,fun b hb => .inl (hF.F1 b hb),fun b hb => ?_⟩,?_,fun p hp => ?_,fun i to' ti' sz' L' hm => ?_,fun i i' to1 ti1 sz1 to2 ti2 sz2 L1 L2 h1 h2 hne b hb hb' => ?_⟩
  · obtain ⟨o,e,h2,h3⟩:=old i _ hm rfl
    rcases cpO_eq h3 with ⟨_,_,_,e⟩ | ⟨_,rfl⟩
    · cases e
    · rcases hM.row _ _ _ _ h2 with h4 | ⟨b,arr,inf,q0,q1,q2,q3,q4,q5,q6,q7,q8⟩
      · exact .inl h4
      · exact .inr ⟨b,arr,inf,q0,q1,q2,q3,q4,q5,q6,fun j hj=>(q7 j hj).mono (fun _ h => .inl h) (fun _ _=>rfl),q8⟩
  · obtain ⟨o,e,h2,h3⟩:=old i _ hm rfl
    rcases cpO_eq h3 with ⟨ty',l,rfl,e2⟩ | ⟨hn,rfl⟩
    · cases e2
      obtain ⟨b,arr,q0,q1,q2,q3,q4⟩:=hM.box _ _ _ h2
      obtain ⟨r1,r2⟩:=hcl l (fun j=>arr.getD j undef) q3
      exact ⟨b,arr,q0,q1,by rw [r1];exact q2,fun j hj=>(r2 j hj).mono hle2,fun j hj=>q4 j (by rw [r1] at hj;exact hj)⟩
    · exact absurd rfl (hn ty cs)
  · obtain ⟨o,e,h2,h3⟩:=old i _ hm rfl
    rcases cpO_eq h3 with ⟨_,_,_,e⟩ | ⟨_,rfl⟩
    · cases e
    · obtain ⟨b,arr,q0,q1,q2,q3⟩:=hM.mp _ _ _ h2
      refine ⟨b,arr,q0,q1,q2,fun j hj => ?_⟩
      obtain ⟨en,r1,r2,r3,r4⟩:=q3 j hj
      exact ⟨en,r1,r2,r3,r4.mono hle.F hle.fz⟩
  · obtain ⟨x1,_,r1,r2⟩:=old i _ h1 l1
    obtain ⟨x2,_,r3,r4⟩:=old i' _ h2 l2
    exact hM.inj i i' x1 x2 b r1 (by rw [← olv _ _ r2];exact l1) r3 (by rw [← olv _ _ r4];exact l2) e1 e2
  · obtain ⟨x1,_,r1,r2⟩:=old i _ hm hl
    have hlx:x1.live=true:=by rw [← olv _ _ r2];exact hl
    rintro (h | h)
    · exact hM.nF i x1 b r1 hlx hb h
    · exact (q.own b h).2 i x1 r1 hlx hb
  · rcases hb with h | h
    · exact hM.Fs b h
    · exact (q.lt h).1
  · obtain ⟨x1,_,r1,r2⟩:=old i _ hm hl
    exact hM.lt i x1 b r1 (by rw [← olv _ _ r2];exact hl) hb
  · obtain ⟨⟨o',r1⟩,r2,r3⟩:=hF.ids i o h
    exact ⟨hids i o' r1,r2,r3⟩
  · obtain ⟨⟨o',r1⟩,_⟩:=hF.ids i o h
    obtain ⟨cs',h2⟩:=hrow i o' r1 ty n cs hm
    exact hF.row i o h _ _ _ h2
  · obtain ⟨⟨o2,r1⟩,_⟩:=hF.ids i o h
    exact hF.liv i o h o2 r1 (hl2 i o2 r1 o' hm hl)
  · obtain ⟨x1,_,r1,r2⟩:=old i _ hm hl
    exact hF.new i x1 b r1 (by rw [← olv _ _ r2];exact hl) hb
  · rcases hb with h | h
    · exact hF.F2 b h
    · rcases (q1 b h).1 with r | r
      · exact .inr (.inl r)
      · exact .inr (.inr r)
  · obtain ⟨⟨l,a1,a2,a3⟩,_⟩:=hD
    refine ⟨l,a1,a2,fun D hd => ?_⟩
    obtain ⟨r1,r2,r3⟩:=a3 D hd
    refine ⟨r1,r2,?_⟩
    rintro (h | h)
    · exact r3 h
    · obtain ⟨arr,ty,h2⟩:=hcell D h
      rw [h2] at r1;cases r1
  · obtain ⟨r1,r2,r3,r4,r5⟩:=hD.2.1 p hp
    refine ⟨r1,r2,r3,?_,fun i o ho' hl hb => ?_⟩
    · rintro (h | h)
      · exact r4 h
      · exact (q1 _ h).2 p hp rfl
    · obtain ⟨x1,_,s1,s2⟩:=old i _ ho' hl
      exact r5 i x1 s1 (by rw [← olv _ _ s2];exact hl) hb
  · obtain ⟨o,e,h2,h3⟩:=old i _ hm rfl
    rcases cpO_eq h3 with ⟨_,_,_,e⟩ | ⟨_,rfl⟩
    · cases e
    · obtain ⟨p,p0,p1⟩:=hD.2.2.1 _ _ _ _ _ h2
      refine ⟨p.move p.io rfl (fun _ h => .inl h) (fun _ _=>rfl) fun b hb=>⟨rfl,?_,fun i2 o2 ho2 hl => ?_⟩,p0,p1⟩
      · rintro (h | h)
        · exact (p.own b hb).1 h
        · exact hD.2.2.2 _ _ _ _ _ _ _ _ _ _ h2 ho e b hb h
      · obtain ⟨x1,_,s1,s2⟩:=old i2 _ ho2 hl
        exact (p.own b hb).2 i2 x1 s1 (by rw [← olv _ _ s2];exact hl)
  · obtain ⟨x1,_,s1,s2⟩:=old i _ h1 rfl
    obtain ⟨x2,_,s3,s4⟩:=old i' _ h2 rfl
    rcases cpO_eq s2 with ⟨_,_,_,e⟩ | ⟨_,rfl⟩
    · cases e
    rcases cpO_eq s4 with ⟨_,_,_,e⟩ | ⟨_,rfl⟩
    · cases e
    exact hD.2.2.2 _ _ _ _ _ _ _ _ _ _ s1 s3 hne b hb hb'

def nlP(i to ti sz:Nat)(st:St):Option St:=match st.t[i]? with
  | some (.p (.v (.slice none 0 0)))=>match freeB st.m st.m.length with
    | true=>some ⟨st.t.set i (.pa st.m.length .root),setAt st.m st.m.length (some (.pk to ti sz []))⟩
    | false=>none
  | _=>none
theorem nlP_sound{i to ti sz:Nat}{st st':St}{a:Act}(h:nlP i to ti sz st=some st')(hs:Sim P C0 M0 w0 st a w):Sim P C0 M0 w0 st' a w:=by
  obtain ⟨C,hS,hM,hF,hD⟩:=hs
  unfold nlP at h
  split at h
  · rename_i hi
    split at h
    · rename_i hb
      cases h
      have hf:=freeB_inv hb
      generalize st.m.length=id at hf ⊢
      have hM':∀ (j:Nat) (o:AO),(setAt st.m id (some (.pk to ti sz [])))[j]? = some (some o)↔(j=id∧o = .pk to ti sz [])∨(j∈([]:List Nat)∧o = .dead)∨(j≠id∧j∉([]:List Nat)∧st.m[j]? = some (some o)):=fun j o=>by
        by_cases e:j=id
        · subst e
          rw [setAt_same]
          constructor
          · intro h;cases h;exact .inl ⟨rfl,rfl⟩
          · rintro (⟨_,rfl⟩ | ⟨h,_⟩ | ⟨h,_⟩)
            · rfl
            · simp at h
            · exact absurd rfl h
        · rw [setAt_other _ _ _ _ _ (Ne.symm e)]
          constructor
          · intro h;exact .inr (.inr ⟨e,by simp,h⟩)
          · rintro (⟨h,_⟩ | ⟨h,_⟩ | ⟨_,_,h⟩)
            · exact absurd h e
            · simp at h
            · exact h
      have hκ:(C.pack id (lay 0 0 0 [])).κ id=lay 0 0 0 []:=by simp [Cx.pack]
      have hno:∀ b,¬ PBlk (lay 0 0 0 []) b:=fun b hb=>by
        rcases hb with ⟨h,_⟩ | ⟨j,hj,_⟩
        · exact h lay_C
        · rw [lay_N] at hj;omega
      have hnew:PkOK (C.pack id (lay 0 0 0 [])) (setAt st.m id (some (.pk to ti sz []))) w id to ti sz []:=by
        refine ⟨by simp [Cx.pack],by rw [hκ,lay_N];rfl,by rw [hκ,lay_N];omega,by rw [hκ,lay_C];simp [maxLen],fun h=>absurd (by rw [hκ];exact lay_C) h,fun j hj=>by simp at hj,fun b hb=>absurd (hκ ▸ hb) (hno b),fun h=>absurd (by rw [hκ];exact lay_C) h,fun j j' hj=>by rw [hκ,lay_N] at hj;omega⟩
      obtain ⟨f1,f2,f3,f4⟩:=pk_final (ks:=[]) (w':=w) hM hF hD (fun _=>False) hf hM' rfl rfl rfl (Nat.le_refl _) (fun _ h=>h.elim) (fun _ _ _=>rfl) hnew (fun b hb=>absurd hb (hno b))
      refine ⟨_,⟨by simpa using hS.size,fun j hj => ?_⟩,f2,f3,f4⟩
      simp only [List.length_set] at hj
      rw [List.getElem_set]
      split
      · rename_i e
        subst e
        have hr:=hS.at hi
        generalize a.tmps.getD i undef=u at hr ⊢
        cases hr with
        | p _ _ h =>
          cases h
          have:=pa_rep (C:=C.pack id (lay 0 0 0 [])) (w:=w) (id:=id) (q := .root) ((hM' id _).2 (.inl ⟨rfl,rfl⟩))
          have hv:pqV ((C.pack id (lay 0 0 0 [])).κ id) .root = .slice none 0 0:=by
            rw [hκ];unfold pqV;rw [if_pos lay_C]
          rwa [hv] at this
      · exact (hS.rep j hj).mono f1
    · cases h
  · cases h
end
section
variable {P:Program} {T:TT} {E:Env} {C C0:Cx} {M M0:Mem} {w w0:World}

def idx:List Nat→Nat→Nat→Option Nat
  | [],_,_=>none
  | j::r,i,n=>match Nat.beq j i with
    | true=>some n
    | false=>idx r i (n+1)
def rnI(k:Nat)(ids:List Nat)(i:Nat):Option Nat:=match Nat.blt i k with
  | true=>some i
  | false=>idx ids i k
mutual
def mpA(f:Nat→Option Nat):AV→Option AV
  | .own i=>(f i).map .own
  | .arr i off n=>(f i).map fun j => .arr j off n
  | .ptr i off=>(f i).map fun j => .ptr j off
  | .mp i=>(f i).map .mp
  | .pa i q=>(f i).map fun j => .pa j q
  | .agg l=>(mpL f l).map .agg
  | .tup l=>(mpL f l).map .tup
  | .fn g a b=>match mpL f a with
    | some a'=>(mpL f b).map fun b' => .fn g a' b'
    | none=>none
  | .p x=>some (.p x)
  | .rp cs o=>some (.rp cs o)
  | .yld l=>some (.yld l)
  | .kb b=>some (.kb b)
  | .any=>some .any
def mpL(f:Nat→Option Nat):List AV→Option (List AV)
  | []=>some []
  | x::r=>match mpA f x with
    | some y=>(mpL f r).map (y :: ·)
    | none=>none
end
def mpO(f:Nat→Option Nat):AO→Option AO
  | .row ty n cs=>some (.row ty n cs)
  | .box ty l=>(mpL f l).map (.box ty ·)
  | .mp es cl=>some (.mp es cl)
  | .pk to ti sz L=>some (.pk to ti sz L)
  | .dead=>some .dead
def mpM(f:Nat→Option Nat):Mem→Option Mem
  | []=>some []
  | none::r=>(mpM f r).map (none :: ·)
  | some o::r=>match mpO f o with
    | some o'=>(mpM f r).map (some o' :: ·)
    | none=>none
abbrev rnL(k:Nat)(ids:List Nat):=mpL (rnI k ids)
abbrev rnM(k:Nat)(ids:List Nat):=mpM (rnI k ids)
def at?(m:Mem)(i:Nat):Option AO:=objAt m i
def distinct(k:Nat):List Nat→Bool
  | []=>true
  | i::r=>match Nat.ble k i with
    | true=>match r.all (fun j => !Nat.beq j i) with
      | true=>distinct k r
      | false=>false
    | false=>false
def firsts(m:Mem):Nat→Nat→Mem
  | 0,_=>[]
  | k+1,i=>at? m i::firsts m k (i+1)
def pick(k:Nat)(ids:List Nat)(st:St):Option St:=match distinct k ids with
  | true=>match rnL k ids st.t with
    | some t=>(rnM k ids (firsts st.m k 0++ids.map (at? st.m))).map (⟨t,·⟩)
    | none=>none
  | false=>none

theorem idx_spec:∀ (ids:List Nat) (i n j:Nat),idx ids i n=some j→n≤j∧ids[j-n]? = some i
  | [],i,n,j,h=>by cases h
  | a::r,i,n,j,h=>by
    unfold idx at h
    split at h
    · rename_i hb
      cases h
      exact ⟨Nat.le_refl _,by rw [Nat.sub_self];simp [Nat.eq_of_beq_eq_true hb]⟩
    · obtain ⟨h1,h2⟩:=idx_spec r i (n+1) j h
      refine ⟨by omega,?_⟩
      rw [show j-n=(j-(n+1))+1 by omega]
      simpa using h2
theorem distinct_spec{k:Nat}:∀ {ids:List Nat},distinct k ids=true→(∀ i∈ids,k≤i)∧ids.Nodup
  | [],_=>⟨by simp,.nil⟩
  | a::r,h=>by
    unfold distinct at h
    split at h
    · rename_i h1
      split at h
      · rename_i h2
        obtain ⟨h3,h4⟩:=distinct_spec h
        refine ⟨fun i hi => ?_,?_⟩
        · rcases List.mem_cons.1 hi with rfl | hi
          · exact Nat.le_of_ble_eq_true h1
          · exact h3 i hi
        · refine List.nodup_cons.2 ⟨fun hm => ?_,h4⟩
          have:=List.all_eq_true.1 h2 a hm
          simp at this
      · cases h
    · cases h
theorem firsts_at(m:Mem):∀ (k i j:Nat),j<k→(firsts m k i)[j]? = some (objAt m (i+j))
  | 0,i,j,h=>by omega
  | k+1,i,j,h=>by
    unfold firsts
    cases j with
    | zero=>simp [at?]
    | succ j =>
      have:=firsts_at m k (i+1) j (by omega)
      rw [List.getElem?_cons_succ,this,show i+1+j=i+(j+1) by omega]
theorem firsts_len(m:Mem):∀ (k i:Nat),(firsts m k i).length=k
  | 0,_=>rfl
  | k+1,i=>by simp [firsts,firsts_len m k]

def srcI(k:Nat)(ids:List Nat)(j:Nat):Option Nat:=if j<k then some j else ids[j-k]?
theorem rnI_src{k:Nat}{ids:List Nat}{i j:Nat}(h:rnI k ids i=some j):srcI k ids j=some i:=by
  unfold rnI at h
  split at h
  · rename_i hb
    cases h
    have:i<k:=by simpa [Nat.blt_eq] using hb
    simp [srcI,this]
  · obtain ⟨h1,h2⟩:=idx_spec _ _ _ _ h
    simp [srcI,Nat.not_lt.2 h1,h2]
theorem src_inj{k:Nat}{ids:List Nat}(hd:distinct k ids=true){j j' i:Nat}(h:srcI k ids j=some i)(h':srcI k ids j'=some i):j=j':=by
  obtain ⟨h1,h2⟩:=distinct_spec hd
  unfold srcI at h h'
  split at h <;> split at h'
  · cases h;cases h';rfl
  · cases h
    have:=h1 _ (List.mem_of_getElem? h')
    omega
  · cases h'
    have:=h1 _ (List.mem_of_getElem? h)
    omega
  · obtain ⟨q1,q2⟩:=List.getElem?_eq_some_iff.1 h
    obtain ⟨q3,q4⟩:=List.getElem?_eq_some_iff.1 h'
    have hp:=List.pairwise_iff_getElem.1 h2
    rcases Nat.lt_trichotomy (j-k) (j'-k) with hl | hl | hl
    · exact absurd (q2.trans q4.symm) (hp _ _ q1 q3 hl)
    · omega
    · exact absurd (q4.trans q2.symm) (hp _ _ q3 q1 hl)

def Cx.rn(C:Cx)(k:Nat)(ids:List Nat):Cx:={ ι:=fun j=>(srcI k ids j).bind C.ι,κ:=fun j=>match srcI k ids j with | some i=>C.κ i | none=>0,F:=C.F }

theorem mpM_at{f:Nat→Option Nat}:∀ {m m':Mem},mpM f m=some m'→m'.length=m.length∧(∀ (j:Nat) (o':AO),m'[j]? = some (some o')→∃ o,m[j]? = some (some o)∧mpO f o=some o')∧(∀ (j:Nat) (o:AO),m[j]? = some (some o)→∃ o',m'[j]? = some (some o')∧mpO f o=some o')
  | [],m',h=>by cases h;exact ⟨rfl,fun j o h=>by simp at h,fun j o h=>by simp at h⟩
  | none::r,m',h=>by
    unfold mpM at h
    cases hr:mpM f r with
    | none=>rw [hr] at h;cases h
    | some r' =>
      rw [hr] at h;cases h
      obtain ⟨h1,h2,h3⟩:=mpM_at hr
      refine ⟨by simp [h1],fun j o hj => ?_,fun j o hj => ?_⟩
      · cases j with
        | zero=>simp at hj
        | succ j=>exact h2 j o (by simpa using hj)
      · cases j with
        | zero=>simp at hj
        | succ j=>exact h3 j o (by simpa using hj)
  | some o::r,m',h=>by
    unfold mpM at h
    split at h
    · rename_i o' ho'
      cases hr:mpM f r with
      | none=>rw [hr] at h;cases h
      | some r' =>
        rw [hr] at h;cases h
        obtain ⟨h1,h2,h3⟩:=mpM_at hr
        refine ⟨by simp [h1],fun j o hj => ?_,fun j o hj => ?_⟩
        · cases j with
          | zero=>simp at hj;subst hj;exact ⟨_,rfl,ho'⟩
          | succ j=>exact h2 j o (by simpa using hj)
        · cases j with
          | zero=>simp at hj;subst hj;exact ⟨_,rfl,ho'⟩
          | succ j=>exact h3 j o (by simpa using hj)
    · cases h

theorem mpO_live{f:Nat→Option Nat}{o o':AO}(h:mpO f o=some o'):o'.live=o.live:=by
  cases o <;> simp only [mpO,Option.map_eq_some_iff,Option.some.injEq] at h
  · subst h;rfl
  · obtain ⟨_,_,rfl⟩:=h;rfl
  · subst h;rfl
  · subst h;rfl
  · subst h;rfl
theorem mpO_row{f:Nat→Option Nat}{o:AO}{ty n:Nat}{cs:List PV}(h:mpO f o=some (.row ty n cs)):o = .row ty n cs:=by
  cases o <;> simp only [mpO,Option.map_eq_some_iff,Option.some.injEq] at h
  · exact h
  · obtain ⟨_,_,h⟩:=h;cases h
  · cases h
  · cases h
  · cases h
structure Mapd (f:Nat→Option Nat) (C C':Cx) (M M':Mem):Prop where
  bk:∀ (i j:Nat) (o':AO),f i=some j→M'[j]? = some (some o')→∃ o,M[i]? = some (some o)∧mpO f o=some o'
  fw:∀ (i j:Nat) (o:AO),f i=some j→M[i]? = some (some o)→∃ o',M'[j]? = some (some o')∧mpO f o=some o'
  at_:∀ i j,f i=some j→C'.ι j=C.ι i∧C'.κ j=C.κ i
  F:∀ b,C.F b→C'.F b

section
variable {f:Nat→Option Nat} {C':Cx} {M':Mem} (hm:Mapd f C C' M M')
include hm
set_option linter.unusedSectionVars false in
mutual
theorem mpA_sound:∀ {x y:AV} {u:Value},Rep C M w x u→mpA f x=some y→Rep C' M' w y u
  | .own i,y,u,h,hr=>by
    simp only [mpA,Option.map_eq_some_iff] at hr
    obtain ⟨j,hj,rfl⟩:=hr
    cases h with
    | own _ u h0 ha h =>
      obtain ⟨o,ho⟩:=ha
      obtain ⟨o',ho',_⟩:=hm.fw _ _ _ hj ho
      refine .own j u h0 ⟨o',ho'⟩ fun ty n cs hx => ?_
      obtain ⟨o2,e2,e3⟩:=hm.bk _ _ _ hj hx
      rw [mpO_row e3] at e2
      rw [(hm.at_ _ _ hj).1,(hm.at_ _ _ hj).2]
      exact h _ _ _ e2
  | .arr i off n,y,u,h,hr=>by
    simp only [mpA,Option.map_eq_some_iff] at hr
    obtain ⟨j,hj,rfl⟩:=hr
    cases h with
    | arr _ _ _ u h0 ha h =>
      obtain ⟨o,ho⟩:=ha
      obtain ⟨o',ho',_⟩:=hm.fw _ _ _ hj ho
      refine .arr j off n u h0 ⟨o',ho'⟩ fun o3 hx hl => ?_
      obtain ⟨o2,e2,e3⟩:=hm.bk _ _ _ hj hx
      rw [(hm.at_ _ _ hj).1]
      exact h _ e2 (by rw [← mpO_live e3];exact hl)
  | .ptr i off,y,u,h,hr=>by
    simp only [mpA,Option.map_eq_some_iff] at hr
    obtain ⟨j,hj,rfl⟩:=hr
    cases h with
    | ptr _ _ u h0 ha h =>
      obtain ⟨o,ho⟩:=ha
      obtain ⟨o',ho',_⟩:=hm.fw _ _ _ hj ho
      refine .ptr j off u h0 ⟨o',ho'⟩ fun o3 hx hl => ?_
      obtain ⟨o2,e2,e3⟩:=hm.bk _ _ _ hj hx
      rw [(hm.at_ _ _ hj).1]
      exact h _ e2 (by rw [← mpO_live e3];exact hl)
  | .mp i,y,u,h,hr=>by
    simp only [mpA,Option.map_eq_some_iff] at hr
    obtain ⟨j,hj,rfl⟩:=hr
    cases h with
    | mp _ u h0 ha h =>
      obtain ⟨o,ho⟩:=ha
      obtain ⟨o',ho',_⟩:=hm.fw _ _ _ hj ho
      refine .mp j u h0 ⟨o',ho'⟩ fun o3 hx hl => ?_
      obtain ⟨o2,e2,e3⟩:=hm.bk _ _ _ hj hx
      rw [(hm.at_ _ _ hj).1]
      exact h _ e2 (by rw [← mpO_live e3];exact hl)
  | .pa i q,y,u,h,hr=>by
    simp only [mpA,Option.map_eq_some_iff] at hr
    obtain ⟨j,hj,rfl⟩:=hr
    cases h with
    | pa _ _ u h0 ha h =>
      obtain ⟨o,ho⟩:=ha
      obtain ⟨o',ho',_⟩:=hm.fw _ _ _ hj ho
      refine .pa j q u h0 ⟨o',ho'⟩ fun o3 hx hl => ?_
      obtain ⟨o2,e2,e3⟩:=hm.bk _ _ _ hj hx
      rw [(hm.at_ _ _ hj).2]
      exact h _ e2 (by rw [← mpO_live e3];exact hl)
  | .agg l,y,u,h,hr=>by
    simp only [mpA,Option.map_eq_some_iff] at hr
    obtain ⟨l',hl,rfl⟩:=hr
    cases h with
    | agg _ vs h0 h1 h4 =>
      obtain ⟨q1,q2⟩:=mpL_sound (us:=fun i=>vs.getD i undef) h4 hl
      exact .agg _ _ (fun i hi=>h0 i (by omega)) (by omega) q2
  | .tup l,y,u,h,hr=>by
    simp only [mpA,Option.map_eq_some_iff] at hr
    obtain ⟨l',hl,rfl⟩:=hr
    cases h with
    | tup _ vs h1 h4 =>
      obtain ⟨q1,q2⟩:=mpL_sound (us:=fun i=>vs.getD i undef) h4 hl
      exact .tup _ _ (by omega) q2
  | .fn g a b,y,u,h,hr=>by
    simp only [mpA] at hr
    split at hr
    · rename_i a' ha
      simp only [Option.map_eq_some_iff] at hr
      obtain ⟨b',hb,rfl⟩:=hr
      cases h with
      | fn _ _ _ us vs h1 h4 h5 h6 =>
        obtain ⟨q1,q2⟩:=mpL_sound (us:=fun i=>us.getD i undef) h5 ha
        obtain ⟨r1,r2⟩:=mpL_sound (us:=fun i=>vs.getD i undef) h6 hb
        exact .fn g _ _ us vs (by omega) (by omega) q2 r2
    · cases hr
  | .p x,y,u,h,hr=>by simp only [mpA] at hr;cases hr;cases h with | p _ _ h=>exact .p _ _ (h.mono hm.F (fun _ _=>rfl))
  | .rp cs o,y,u,h,hr=>by
    simp only [mpA] at hr;cases hr
    cases h with | rp _ _ b o us h1 h2 h3=>exact .rp cs _ b o us (fun i hi=>⟨hm.F _ (h1 i hi).1,(h1 i hi).2⟩) (fun i hi=>(h2 i hi).mono hm.F (fun _ _=>rfl)) h3
  | .yld l,y,u,h,hr=>by simp only [mpA] at hr;cases hr;cases h;exact .yld _
  | .kb b,y,u,h,hr=>by simp only [mpA] at hr;cases hr;cases h;exact .kb _
  | .any,y,u,h,hr=>by simp only [mpA] at hr;cases hr;exact .any _
theorem mpL_sound:∀ {l ys:List AV} {us:Nat→Value},(∀ i (h:i<l.length),Rep C M w l[i] (us i))→mpL f l=some ys→ys.length=l.length∧∀ i (h:i<ys.length),Rep C' M' w ys[i] (us i)
  | [],_,_,_,hr=>by simp only [mpL] at hr;cases hr;exact ⟨rfl,fun i h=>by simp at h⟩
  | x::r,ys,us,h,hr=>by
    simp only [mpL] at hr
    split at hr
    · rename_i y hy
      simp only [Option.map_eq_some_iff] at hr
      obtain ⟨r',hr',rfl⟩:=hr
      obtain ⟨q1,q2⟩:=mpL_sound (us:=fun i=>us (i+1)) (fun i hi=>h (i+1) (by simpa using hi)) hr'
      refine ⟨by simp [q1],fun i hi => ?_⟩
      cases i with
      | zero=>exact mpA_sound (h 0 (by simp)) hy
      | succ i=>exact q2 i (by simpa using hi)
    · cases hr
end
end

theorem pick_mem{k:Nat}{ids:List Nat}{M':Mem}(hM:MemOK P C M w)(hd:distinct k ids=true)(hm':rnM k ids (firsts M k 0++ids.map (at? M))=some M') :
    MemOK P (C.rn k ids) M' w∧Mapd (rnI k ids) C (C.rn k ids) M M'∧∀ (j:Nat) (o':AO),M'[j]? = some (some o')→∃ i o,srcI k ids j=some i∧M[i]? = some (some o)∧mpO (rnI k ids) o=some o':=by
  obtain ⟨g1,g2,g3⟩:=mpM_at hm'
  have hat:∀ (i j:Nat) (o:AO),srcI k ids j=some i→((firsts M k 0++ids.map (at? M))[j]? = some (some o)↔M[i]? = some (some o)):=fun i j o hs=>by
    unfold srcI at hs
    split at hs
    · rename_i hj
      cases hs
      rw [List.getElem?_append_left (by rw [firsts_len];exact hj),firsts_at _ _ _ _ hj,Nat.zero_add,Option.some.injEq,objAt_iff]
    · rename_i hj
      rw [List.getElem?_append_right (by rw [firsts_len];omega),firsts_len,List.getElem?_map,hs,Option.map_some,Option.some.injEq]
      exact objAt_iff
  have hsrc:∀ (j:Nat) (o:AO),(firsts M k 0++ids.map (at? M))[j]? = some (some o)→∃ i,srcI k ids j=some i:=fun j o hj=>by
    unfold srcI
    split
    · exact ⟨_,rfl⟩
    · obtain ⟨hl,_⟩:=List.getElem?_eq_some_iff.1 hj
      rw [List.length_append,firsts_len,List.length_map] at hl
      exact ⟨_,List.getElem?_eq_getElem (by omega)⟩
  have h2:∀ (j:Nat) (o':AO),M'[j]? = some (some o')→∃ i o,srcI k ids j=some i∧M[i]? = some (some o)∧mpO (rnI k ids) o=some o':=fun j o' hj=>by
    obtain ⟨o,q1,q2⟩:=g2 j o' hj
    obtain ⟨i,hi⟩:=hsrc j o q1
    exact ⟨i,o,hi,(hat i j o hi).1 q1,q2⟩
  have hi:∀ j i,srcI k ids j=some i→(C.rn k ids).ι j=C.ι i∧(C.rn k ids).κ j=C.κ i:=fun j i h=>by simp [Cx.rn,h]
  have hmp:Mapd (rnI k ids) C (C.rn k ids) M M':=⟨fun i j o' hf hj=>by
    obtain ⟨i',o,q1,q2,q3⟩:=h2 j o' hj
    rw [rnI_src hf] at q1;cases q1
    exact ⟨o,q2,q3⟩,fun i j o hf ho=>g3 j o ((hat i j o (rnI_src hf)).2 ho),fun i j hf=>hi j i (rnI_src hf),fun _ h=>h⟩
  refine ⟨⟨fun j ty n cs h => ?_,fun j ty cs h => ?_,fun j es cl h => ?_,fun j j' o1 o2 b q1 l1 q2 l2 e1 e2 => ?_,fun j o b h hl hb => ?_,hM.Fs,fun j o b h hl hb => ?_⟩,hmp,h2⟩
  · obtain ⟨i,o,q1,q2,q3⟩:=h2 _ _ h
    rw [mpO_row q3] at q2
    obtain ⟨r1,r2⟩:=hi j i q1
    rw [r1,r2]
    exact hM.row _ _ _ _ q2
  · obtain ⟨i,o,q1,q2,q3⟩:=h2 _ _ h
    obtain ⟨r1,r2⟩:=hi j i q1
    cases o with
    | box ty' l =>
      simp only [mpO,Option.map_eq_some_iff] at q3
      obtain ⟨l',hl',e⟩:=q3
      cases e
      obtain ⟨b,arr,p0,p1,p2,p3,p4⟩:=hM.box _ _ _ q2
      obtain ⟨n1,n2⟩:=mpL_sound hmp (w:=w) (us:=fun j=>arr.getD j undef) p3 hl'
      exact ⟨b,arr,by rw [r1];exact p0,p1,by omega,n2,fun j hj=>p4 j (by omega)⟩
    | row=>simp [mpO] at q3
    | mp=>simp [mpO] at q3
    | pk=>simp [mpO] at q3
    | dead=>simp [mpO] at q3
  · obtain ⟨i,o,q1,q2,q3⟩:=h2 _ _ h
    obtain ⟨r1,r2⟩:=hi j i q1
    cases o with
    | mp es' cl' =>
      simp only [mpO,Option.some.injEq] at q3
      cases q3
      obtain ⟨b,arr,p0,p1,p2,p3⟩:=hM.mp _ _ _ q2
      exact ⟨b,arr,by rw [r1];exact p0,p1,p2,p3⟩
    | row=>simp [mpO] at q3
    | box=>simp [mpO] at q3
    | pk=>simp [mpO] at q3
    | dead=>simp [mpO] at q3
  · obtain ⟨i,o,q3,q4,q5⟩:=h2 _ _ q1
    obtain ⟨i',o',q6,q7,q8⟩:=h2 _ _ q2
    rw [(hi _ _ q3).1] at e1
    rw [(hi _ _ q6).1] at e2
    have:=hM.inj i i' o o' b q4 (by rw [← mpO_live q5];exact l1) q7 (by rw [← mpO_live q8];exact l2) e1 e2
    subst this
    exact src_inj hd q3 q6
  · obtain ⟨i,o',q3,q4,q5⟩:=h2 _ _ h
    rw [(hi _ _ q3).1] at hb
    exact hM.nF i o' b q4 (by rw [← mpO_live q5];exact hl) hb
  · obtain ⟨i,o',q3,q4,q5⟩:=h2 _ _ h
    rw [(hi _ _ q3).1] at hb
    exact hM.lt i o' b q4 (by rw [← mpO_live q5];exact hl) hb

theorem pick_sound{k:Nat}{ids:List Nat}{st st':St}{a:Act}(hk:M0.length≤k)(hp:pick k ids st=some st')(hs:Sim P C0 M0 w0 st a w):Sim P C0 M0 w0 st' a w:=by
  obtain ⟨C,hS,hM,hF,hD⟩:=hs
  unfold pick at hp
  split at hp
  · rename_i hd
    split at hp
    · rename_i t ht
      simp only [Option.map_eq_some_iff] at hp
      obtain ⟨M',hm',rfl⟩:=hp
      obtain ⟨hM',hmp,h2⟩:=pick_mem hM hd hm'
      obtain ⟨t1,t2⟩:=mpL_sound hmp (w:=w) (us:=fun i=>a.tmps.getD i undef) hS.rep ht
      have hi:∀ j i,srcI k ids j=some i→(C.rn k ids).ι j=C.ι i∧(C.rn k ids).κ j=C.κ i:=fun j i h=>by simp [Cx.rn,h]
      have small:∀ (i:Nat) (o:AO),M0[i]? = some (some o)→srcI k ids i=some i∧rnI k ids i=some i:=fun i o h=>by
        obtain ⟨hl,_⟩:=List.getElem?_eq_some_iff.1 h
        have hik:i<k:=by omega
        have hb:Nat.blt i k=true:=by rw [Nat.blt_eq];exact hik
        exact ⟨by simp [srcI,hik],by simp only [rnI,hb]⟩
      refine ⟨C.rn k ids,⟨by rw [hS.size];exact t1.symm,t2⟩,hM',
        ⟨hF.os,hF.tape,hF.out,hF.size,hF.keep,fun i o h => ?_,fun i o h ty n cs hx => ?_,fun i o h o' hx hl => ?_,fun j o b h hl hb => ?_,hF.F1,hF.F2⟩,hD.1,fun p hp => ?_,?_⟩
      · obtain ⟨⟨o',q1⟩,q2,q3⟩:=hF.ids i o h
        obtain ⟨o2,q4,_⟩:=hmp.fw i i o' (small i o h).2 q1
        obtain ⟨r1,r2⟩:=hi i i (small i o h).1
        exact ⟨⟨o2,q4⟩,r1.trans q2,r2.trans q3⟩
      · obtain ⟨i',o',q3,q4,q5⟩:=h2 _ _ hx
        rw [(small i o h).1] at q3;cases q3
        rw [mpO_row q5] at q4
        exact hF.row _ _ h _ _ _ q4
      · obtain ⟨i',o2,q3,q4,q5⟩:=h2 _ _ hx
        rw [(small i o h).1] at q3;cases q3
        exact hF.liv _ _ h _ q4 (by rw [← mpO_live q5];exact hl)
      · obtain ⟨i,o',q3,q4,q5⟩:=h2 _ _ h
        rw [(hi _ _ q3).1] at hb
        exact hF.new i o' b q4 (by rw [← mpO_live q5];exact hl) hb
      · obtain ⟨r1,r2,r3,r4,r5⟩:=hD.2.1 p hp
        refine ⟨r1,r2,r3,r4,fun j o h hl hb => ?_⟩
        obtain ⟨i,o',q3,q4,q5⟩:=h2 _ _ h
        rw [(hi _ _ q3).1] at hb
        exact r5 i o' q4 (by rw [← mpO_live q5];exact hl) hb
      · have lv:∀ (j:Nat) (o:AO),M'[j]? = some (some o)→o.live=true→∃ i o',srcI k ids j=some i∧st.m[i]? = some (some o')∧o'.live=true:=fun j o h hl=>by
          obtain ⟨i,o',q3,q4,q5⟩:=h2 _ _ h
          exact ⟨i,o',q3,q4,by rw [← mpO_live q5];exact hl⟩
        have pk:∀ (j to ti sz:Nat) (L:List (Nat × List PV)),M'[j]? = some (some (.pk to ti sz L))→∃ i,srcI k ids j=some i∧st.m[i]? = some (some (.pk to ti sz L)):=fun j to ti sz L h=>by
          obtain ⟨i,o',q3,q4,q5⟩:=h2 _ _ h
          refine ⟨i,q3,?_⟩
          cases o' with
          | pk=>simp only [mpO,Option.some.injEq] at q5;rw [← q5];exact q4
          | box=>simp [mpO] at q5
          | _=>simp [mpO] at q5
        refine ⟨fun j to ti sz L h => ?_,fun j j' to ti sz to' ti' sz' L L' h h' hne b hb hb' => ?_⟩
        · obtain ⟨i,q3,q4⟩:=pk _ _ _ _ _ h
          obtain ⟨p,p0,p1⟩:=hD.2.2.1 _ _ _ _ _ q4
          obtain ⟨r1,r2⟩:=hi j i q3
          refine ⟨p.move (r1.trans p.io) r2 (fun _ h=>h) (fun _ _=>rfl) fun b hb=>⟨rfl,(p.own b hb).1,fun j2 o2 ho hl => ?_⟩,fun o ho => ?_,by rw [r2];exact p1⟩
          · obtain ⟨i2,o3,s1,s2,s3⟩:=lv j2 o2 ho hl
            rw [(hi _ _ s1).1]
            exact (p.own b hb).2 i2 o3 s2 s3
          · have:=(small j o ho).1
            rw [this] at q3;cases q3
            exact p0 o ho
        · obtain ⟨i,q3,q4⟩:=pk _ _ _ _ _ h
          obtain ⟨i',q3',q4'⟩:=pk _ _ _ _ _ h'
          rw [(hi j i q3).2] at hb
          rw [(hi j' i' q3').2] at hb'
          refine hD.2.2.2 _ _ _ _ _ _ _ _ _ _ q4 q4' (fun e=>hne ?_) b hb hb'
          subst e
          exact src_inj hd q3 q3'
    · cases hp
  · cases hp

def fzAll:List Nat→St→Option St
  | [],st=>some st
  | i::r,st=>match fz1 i st with
    | some st'=>fzAll r st'
    | none=>match fzP i st with
      | some st'=>fzAll r st'
      | none=>none
def nlC(id off ty:Nat)(st:St):Option St:=match st.m[id]? with
  | some (some (.box bty cs))=>match cs[off]? with
    | some (.p (.v (.slice none 0 0)))=>match freeB st.m st.m.length with
      | true=>some ⟨st.t,setAt (setAt st.m st.m.length (some (.row ty 0 []))) id (some (.box bty (cs.set off (.own st.m.length))))⟩
      | false=>none
    | _=>none
  | _=>none
def nlS(i ty:Nat)(st:St):Option St:=match st.t[i]? with
  | some (.p (.v (.slice none 0 0)))=>match freeB st.m st.m.length with
    | true=>some ⟨st.t.set i (.own st.m.length),setAt st.m st.m.length (some (.row ty 0 []))⟩
    | false=>none
  | some (.kb b)=>some ⟨st.t.set i (.p (.v (.bool b))),st.m⟩
  | _=>none
def nl1(i ty:Nat)(st:St):Option St:=match Nat.ble 100000 i with
  | true=>nlC ((i-100000) / 1000) ((i-100000) % 1000) ty st
  | false=>match Nat.ble 1000000000 ty with
    | true=>nlP i ((ty-1000000000) / 1000000) ((ty-1000000000) / 100 % 10000) ((ty-1000000000) % 100) st
    | false=>nlS i ty st
def nlAll:List (Nat × Nat)→St→Option St
  | [],st=>some st
  | (i,ty)::r,st=>match nl1 i ty st with
    | some st'=>nlAll r st'
    | none=>none
def gh(k:Nat)(g:Gh)(st:St):Option St:=match fzAll g.fz st with
  | some st1=>match nlAll g.nl st1 with
    | some st2=>pick k g.ids ⟨forget g.fg st2.t,st2.m⟩
    | none=>none
  | none=>none
theorem box_told(hM:MemOK P C M w){id bty off:Nat}{cs:List AV}{x:AV}(hb:M[id]? = some (some (.box bty cs)))(hoff:off<cs.length)
    (hx:∀ u,Rep C M w cs[off] u→Rep C (setAt M id (some (.box bty (cs.set off x)))) w x u):MemOK P C (setAt M id (some (.box bty (cs.set off x)))) w∧Fr C M w C (setAt M id (some (.box bty (cs.set off x)))) w:=by
  have hold:∀ (i:Nat) (o:AO),i≠id→(setAt M id (some (.box bty (cs.set off x))))[i]? = some (some o)→M[i]? = some (some o):=fun i o h=>(setAt_other M id i _ o (fun e=>h e.symm)).1
  have hnew:∀ (o:AO),(setAt M id (some (.box bty (cs.set off x))))[id]? = some (some o)→o = .box bty (cs.set off x):=fun o h=>by rw [setAt_same] at h;cases h;rfl
  have hliv:∀ (i:Nat) (o:AO),(setAt M id (some (.box bty (cs.set off x))))[i]? = some (some o)→o.live=true→∃ o1,M[i]? = some (some o1)∧o1.live=true:=fun i o h hl=>by
    by_cases e:i=id
    · subst e;exact ⟨_,hb,rfl⟩
    · exact ⟨o,hold i o e h,hl⟩
  have f:Fr C M w C (setAt M id (some (.box bty (cs.set off x)))) w:=by
    refine ⟨rfl,rfl,rfl,Nat.le_refl _,fun _ _ _=>rfl,fun i o h=>⟨?_,rfl,rfl⟩,fun i o h ty n cs2 hm => ?_,fun i o h o' h' hl => ?_,fun i o b h hl hbb => ?_,fun b h=>h,fun b h => .inl h⟩
    · by_cases e:i=id
      · subst e;exact ⟨_,setAt_same ..⟩
      · exact ⟨o,(setAt_other M id i _ o (fun e'=>e e'.symm)).2 h⟩
    · by_cases e:i=id
      · subst e;cases hnew _ hm
      · exact ⟨cs2,hold i _ e hm⟩
    · obtain ⟨o1,q1,q2⟩:=hliv i o' h' hl
      rw [h] at q1;cases q1;exact q2
    · obtain ⟨o1,q1,q2⟩:=hliv i o h hl
      exact .inr ⟨i,o1,q1,q2,hbb⟩
  have hL:=hM.le f
  refine ⟨⟨fun i ty n cs2 hm => ?_,fun i ty cs2 hm => ?_,fun i es cl hm => ?_,fun i i' o1 o2 b hm hl hm' hl' h1 h2 => ?_,fun i o b hm hl hbb => ?_,hM.Fs,fun i o b hm hl hbb => ?_⟩,f⟩
  · by_cases e:i=id
    · subst e;cases hnew _ hm
    · exact hM.row _ _ _ _ (hold i _ e hm)
  · by_cases e:i=id
    · subst e
      cases hnew _ hm
      obtain ⟨b,arr,q0,q1,q2,q3,q4⟩:=hM.box _ _ _ hb
      refine ⟨b,arr,q0,q1,by simpa using q2,fun j hj => ?_,fun j hj=>q4 j (by simpa using hj)⟩
      rw [List.getElem_set]
      split
      · rename_i e2;subst e2;exact hx _ (q3 _ hoff)
      · exact (q3 j (by simpa using hj)).mono hL
    · obtain ⟨b,arr,q0,q1,q2,q3,q4⟩:=hM.box _ _ _ (hold i _ e hm)
      exact ⟨b,arr,q0,q1,q2,fun j hj=>(q3 j hj).mono hL,q4⟩
  · by_cases e:i=id
    · subst e;cases hnew _ hm
    · obtain ⟨b,arr,q0,q1,q2,q3⟩:=hM.mp _ _ _ (hold i _ e hm)
      refine ⟨b,arr,q0,q1,q2,fun j hj => ?_⟩
      obtain ⟨en,r1,r2,r3,r4⟩:=q3 j hj
      exact ⟨en,r1,r2,r3,r4.mono hL.F hL.fz⟩
  · obtain ⟨x1,y1,z1⟩:=hliv i o1 hm hl
    obtain ⟨x2,y2,z2⟩:=hliv i' o2 hm' hl'
    exact hM.inj _ _ _ _ _ y1 z1 y2 z2 h1 h2
  · obtain ⟨x1,y1,z1⟩:=hliv i o hm hl
    exact hM.nF _ _ _ y1 z1 hbb
  · obtain ⟨x1,y1,z1⟩:=hliv i o hm hl
    exact hM.lt _ _ _ y1 z1 hbb
theorem nlC_sound{id off ty:Nat}{st st':St}{a:Act}(h:nlC id off ty st=some st')(hs:Sim P C0 M0 w0 st a w):Sim P C0 M0 w0 st' a w:=by
  obtain ⟨C,hS,hM,hF,hD⟩:=hs
  unfold nlC at h
  split at h
  · rename_i bty cs hi
    split at h
    · rename_i hc
      split at h
      · rename_i hb
        cases h
        have hf:=freeB_inv hb
        have f:=fr_none (C:=C) (w:=w) (ty:=ty) hf
        have hM1:=mem_none (ty:=ty) hM hf
        have hne:id≠st.m.length:=fun e=>hf _ (e ▸ hi)
        have hi1:(setAt st.m st.m.length (some (.row ty 0 [])))[id]? = some (some (.box bty cs)):=(setAt_other st.m st.m.length id _ _ (fun e=>hne e.symm)).2 hi
        obtain ⟨hoff,hcv⟩:=List.getElem?_eq_some_iff.1 hc
        have hnw:(setAt (setAt st.m st.m.length (some (.row ty 0 []))) id (some (.box bty (cs.set off (.own st.m.length)))))[st.m.length]? = some (some (.row ty 0 [])):=(setAt_other _ id st.m.length _ _ hne).2 (setAt_same ..)
        obtain ⟨hM2,f2⟩:=box_told hM1 hi1 hoff (x := .own st.m.length) (fun u hu=>by
          rw [hcv] at hu
          cases hu with
          | p _ _ h =>
            cases h
            exact .own _ _ rfl ⟨_,hnw⟩ fun ty n cs h=>by rw [hnw] at h;cases h;exact .inl ⟨rfl,by simp [Cx.nil],rfl⟩)
        exact ⟨C.nil st.m.length,(hS.le (hM.le f)).le (hM1.le f2),hM2,(hF.trans f).trans f2,hD.fr hM ((pkSame_set rfl).trans (pkSame_set rfl)) (f.trans f2)⟩
      · cases h
    · cases h
  · cases h
theorem nlS_sound{i ty:Nat}{st st':St}{a:Act}(h:nlS i ty st=some st')(hs:Sim P C0 M0 w0 st a w):Sim P C0 M0 w0 st' a w:=by
  obtain ⟨C,hS,hM,hF,hD⟩:=hs
  unfold nlS at h
  split at h
  · rename_i hi
    split at h
    · rename_i hb
      cases h
      have hf:=freeB_inv hb
      have f:=fr_none (C:=C) (w:=w) (ty:=ty) hf
      have hL:=hM.le f
      refine ⟨C.nil st.m.length,⟨by simpa using hS.size,fun j hj => ?_⟩,mem_none hM hf,hF.trans f,hD.fr hM (pkSame_set rfl) f⟩
      simp only [List.length_set] at hj
      rw [List.getElem_set]
      split
      · rename_i e
        subst e
        have hr:=hS.at hi
        generalize a.tmps.getD i undef=u at hr ⊢
        cases hr with
        | p _ _ h =>
          cases h
          exact .own _ _ rfl ⟨_,setAt_same ..⟩ fun ty n cs h=>by rw [setAt_same] at h;cases h;exact .inl ⟨rfl,by simp [Cx.nil],rfl⟩
      · exact (hS.rep j hj).mono hL
    · cases h
  · rename_i b hi
    cases h
    refine ⟨C,⟨by simpa using hS.size,fun j hj => ?_⟩,hM,hF,hD⟩
    simp only [List.length_set] at hj
    rw [List.getElem_set]
    split
    · rename_i e
      subst e
      have hr:=hS.at hi
      generalize a.tmps.getD i undef=u at hr ⊢
      cases hr
      exact .p _ _ (.v _)
    · exact hS.rep j hj
  · cases h
theorem nl1_sound{i ty:Nat}{st st':St}{a:Act}(h:nl1 i ty st=some st')(hs:Sim P C0 M0 w0 st a w):Sim P C0 M0 w0 st' a w:=by
  unfold nl1 at h
  split at h
  · exact nlC_sound h hs
  · split at h
    · exact nlP_sound h hs
    · exact nlS_sound h hs
theorem nlAll_sound:∀ (l:List (Nat × Nat)) {st st':St} {a:Act},nlAll l st=some st'→Sim P C0 M0 w0 st a w→Sim P C0 M0 w0 st' a w
  | [],st,st',a,h,hs=>by cases h;exact hs
  | (i,ty)::r,st,st',a,h,hs=>by
    unfold nlAll at h
    split at h
    · rename_i h1
      exact nlAll_sound r h (nl1_sound h1 hs)
    · cases h
theorem fzAll_sound:∀ (l:List Nat) {st st':St} {a:Act},fzAll l st=some st'→Sim P C0 M0 w0 st a w→Sim P C0 M0 w0 st' a w
  | [],st,st',a,h,hs=>by cases h;exact hs
  | i::r,st,st',a,h,hs=>by
    unfold fzAll at h
    split at h
    · rename_i h1
      exact fzAll_sound r h (fz1_sound h1 hs)
    · split at h
      · rename_i h1
        exact fzAll_sound r h (fzP_sound h1 hs)
      · cases h
theorem gh_sound{k:Nat}{g:Gh}{st st':St}{a:Act}(hk:M0.length≤k)(h:gh k g st=some st')(hs:Sim P C0 M0 w0 st a w):Sim P C0 M0 w0 st' a w:=by
  unfold gh at h
  split at h
  · rename_i h1
    split at h
    · rename_i h2
      exact pick_sound hk h (forget_sound g.fg (nlAll_sound _ h2 (fzAll_sound _ h1 hs)))
    · cases h
  · cases h
end
section
variable {P:Program} {T:TT} {E:Env} {C C0:Cx} {M M0:Mem} {w w0:World}

theorem mem_same(hM:MemOK P C M w){w1:World}(hw:w1.heap=w.heap):MemOK P C M w1∧Le C C M M w w1:=by
  have hL:Le C C M M w w1:=⟨fun _ o h=>⟨o,h⟩,fun _ _ _ _ _ cs h=>⟨cs,h⟩,fun _ o h o' h' hl=>by rw [h] at h';cases h';exact ⟨hl,rfl,rfl⟩,fun _ h=>h,fun _ _=>by rw [hw]⟩
  have hsz:w1.heap.size=w.heap.size:=by rw [hw]
  refine ⟨⟨fun i ty' n cs hm => ?_,fun i ty' cs hm => ?_,fun i es cl hm => ?_,hM.inj,hM.nF,fun b hb=>by rw [hsz];exact hM.Fs b hb,fun i x b hm hl hb=>by rw [hsz];exact hM.lt i x b hm hl hb⟩,hL⟩
  · rcases hM.row _ _ _ _ hm with h4 | ⟨b,arr,inf,q0,q1,q2,q3,q4,q5,q6,q7,q8⟩
    · exact .inl h4
    · exact .inr ⟨b,arr,inf,q0,by rw [hw];exact q1,q2,q3,q4,q5,q6,fun j hj=>(q7 j hj).mono hL.F hL.fz,q8⟩
  · obtain ⟨b,arr,q0,q1,q2,q3,q4⟩:=hM.box _ _ _ hm
    exact ⟨b,arr,q0,by rw [hw];exact q1,q2,fun j hj=>(q3 j hj).mono hL,q4⟩
  · obtain ⟨b,arr,q0,q1,q2,q3⟩:=hM.mp _ _ _ hm
    refine ⟨b,arr,q0,by rw [hw];exact q1,q2,fun j hj => ?_⟩
    obtain ⟨en,r1,r2,r3,r4⟩:=q3 j hj
    exact ⟨en,r1,r2,r3,r4.mono hL.F hL.fz⟩
theorem fr_same{w1:World}(hw:w1.heap=w.heap)(ho:w1.os=w.os)(ht:w1.tape=w.tape)(hu:w1.output=w.output):Fr C M w C M w1 :=
  ⟨ho,ht,hu,by rw [hw];exact Nat.le_refl _,fun b _ _=>by rw [hw],fun _ x h=>⟨⟨x,h⟩,rfl,rfl⟩,fun _ _ _ _ _ cs h=>⟨cs,h⟩,fun _ o h o' h' hl=>by rw [h] at h';cases h';exact hl,fun i x _ h hl hb => .inr ⟨i,x,h,hl,hb⟩,fun _ h=>h,fun _ h => .inl h⟩

theorem Sim.drawn{st:St}{a:Act}(h:Sim P C0 M0 w0 st a w)(k:Nat):Sim P C0 M0 w0 st a { w with drawn:=k }:=by
  obtain ⟨C,hS,hM,hF,hD⟩:=h
  obtain ⟨m,l⟩:=mem_same hM (w1:={ w with drawn:=k }) rfl
  exact ⟨C,hS.le l,m,hF.trans (fr_same rfl rfl rfl rfl),hD.fr hM .refl (fr_same rfl rfl rfl rfl)⟩

def runR(P:Program)(T:TT)(E:Env)(ops:Array Oper)(draw:Bool)(st:St):Ask St:=match draw with
  | false=>runL P T E ops.toList ops.toList st
  | true=>do
    lift (if Region.lexB .any ops then some () else none)
    let r ← runD P T E ops.toList ops.toList st.m.length st
    lift (if apartL ops 0 r.1 then some () else none)
    pure r.2

def Ex.toExit:Ex→Exit
  | .normal => .normal
  | .ret => .ret
  | .exit id => .exit id

def loopN(body:St→Ask (Ex × St)):Nat→St→Ask (Ex × St)
  | 0,_=>fail
  | n+1,st=>do
    let r ← body st
    match r.1 with
    | .normal=>loopN body n r.2
    | e=>pure (e,r.2)

def isMapOp:Op→Bool
  | .makeMap _ _=>true
  | .lookup _ _ _ _=>true
  | .mapUpdate _ _ _ _=>true
  | _=>false
def nrf:Code→Bool
  | .region _ ops _=>ops.toList.all fun o => !isMapOp o.op
  | .seq a b=>nrf a && nrf b
  | .cond _ a b=>nrf a && nrf b
  | .block _ b=>nrf b
  | .loop b=>nrf b
  | .scope b=>nrf b
  | .rangeFunc _ _ _ _=>false
  | _=>true
def RoOK(ro:Option Nat)(c:Code):Prop:=ro=none∨nrf c=true
section
variable {ro:Option Nat} {a b:Code} {x:Operand} {id:Nat}
theorem RoOK.seq1(h:RoOK ro (.seq a b)):RoOK ro a:=h.imp (fun h=>h) fun h=>by unfold nrf at h;rw [Bool.and_eq_true] at h;exact h.1
theorem RoOK.seq2(h:RoOK ro (.seq a b)):RoOK ro b:=h.imp (fun h=>h) fun h=>by unfold nrf at h;rw [Bool.and_eq_true] at h;exact h.2
theorem RoOK.cond1(h:RoOK ro (.cond x a b)):RoOK ro a:=h.imp (fun h=>h) fun h=>by unfold nrf at h;rw [Bool.and_eq_true] at h;exact h.1
theorem RoOK.cond2(h:RoOK ro (.cond x a b)):RoOK ro b:=h.imp (fun h=>h) fun h=>by unfold nrf at h;rw [Bool.and_eq_true] at h;exact h.2
theorem RoOK.block(h:RoOK ro (.block id b)):RoOK ro b:=h
theorem RoOK.loop(h:RoOK ro (.loop b)):RoOK ro b:=h
theorem RoOK.scope(h:RoOK ro (.scope b)):RoOK ro b:=h
end

def CodeOK(P:Program)(k:Nat)(c:Code)(st:St)(e:Ex)(st':St):Prop:=∀ (C0:Cx) (M0:Mem) (w0:World) (a:Act) (w:World),M0.length≤k→Sim P C0 M0 w0 st a w→∀ (ro:Option Nat),RoOK ro c→∀ (n:Nat),c.wpIn (Fen ro) n P (fun e' a' w'=>e'=e.toExit∧Sim P C0 M0 w0 st' a' w') a w

def askN(P:Program)(k:Nat)(c:Code)(m:St→Ask (Ex × St))(st:St):Ask (Ex × St):=fun s=>match s.auto with
  | true=>m st s
  | false=>match s.o with
    | .k 0 g e st'::r=>match gh k g st with
      | some st1=>some ((e,st'),{ s with o:=r,obs:=CodeOK P k c st1 e st'::s.obs })
      | none=>none
    | .k (n+1) g e st'::r=>m st { s with o := .k n g e st'::r }
    | .g 0 g::r=>match gh k g st with
      | some st1=>m st1 { s with o:=r }
      | none=>none
    | .g (n+1) g::r=>m st { s with o := .g n g::r }
    | _=>m st s
def autoOnly{α:Type}(m:Ask α):Ask α:=fun s=>match s.auto with
  | true=>m s
  | false=>none

def runC(P:Program)(T:TT)(E:Env)(k fuel:Nat):Code→St→Ask (Ex × St)
  | .skip,st=>pure (.normal,st)
  | .region id ops d,st=>askN P k (.region id ops d) (fun st=>do let st' ← runR P T E ops d st;pure (.normal,st')) st
  | .seq a b,st=>askN P k (.seq a b) (fun st=>do
    let r ← runC P T E k fuel a st
    match r.1 with
    | .normal=>runC P T E k fuel b r.2
    | e=>pure (e,r.2)) st
  | .cond c a b,st=>askN P k (.cond c a b) (fun st=>do
    let x ← lift (ev st c)
    let d ← askC x
    match d with
    | true=>runC P T E k fuel a st
    | false=>runC P T E k fuel b st) st
  | .block id b,st=>askN P k (.block id b) (fun st=>do
    let r ← runC P T E k fuel b st
    match r.1 with
    | .exit i=>match Nat.beq i id with
      | true=>pure (.normal,r.2)
      | false=>pure (.exit i,r.2)
    | e=>pure (e,r.2)) st
  | .loop b,st=>askN P k (.loop b) (fun st=>autoOnly (loopN (fun st=>runC P T E k fuel b st) fuel st)) st
  | .exit id,st=>pure (.exit id,st)
  | .label _,st=>pure (.normal,st)
  | .scope b,st=>runC P T E k fuel b st
  | .ret,st=>pure (.ret,st)
  | c,st=>askN P k c (fun _=>fail) st

theorem CodeOK.pre{k:Nat}{c:Code}{st st1 st':St}{e:Ex}{g:Gh}(hg:gh k g st=some st1)(h:CodeOK P k c st1 e st'):CodeOK P k c st e st':=fun C0 M0 w0 a w hk hs ro hro n=>h C0 M0 w0 a w hk (gh_sound hk hg hs) ro hro n
theorem CodeOK.post{k:Nat}{c:Code}{st st1 st':St}{e:Ex}{g:Gh}(hg:gh k g st1=some st')(h:CodeOK P k c st e st1):CodeOK P k c st e st':=fun C0 M0 w0 a w hk hs ro hro n=>wpIn_mono (h C0 M0 w0 a w hk hs ro hro n) (fun _ _ _ hq=>⟨hq.1,gh_sound hk hg hq.2⟩)
theorem askN_sound{k:Nat}{c:Code}{m:St→Ask (Ex × St)}(hm:∀ {st st':St} {e:Ex} {s s':AS},m st s=some ((e,st'),s')→Good s'→CodeOK P k c st e st'){st st':St}{e:Ex}{s s':AS}(h:askN P k c m st s=some ((e,st'),s'))(g:Good s'):CodeOK P k c st e st':=by
  unfold askN at h
  cases ha:s.auto with
  | true=>rw [ha] at h;exact hm h g
  | false =>
    rw [ha] at h
    dsimp only at h
    split at h
    · split at h
      · rename_i hg
        cases h;exact (g.tail.1).pre hg
      · cases h
    · exact hm h g
    · split at h
      · rename_i hg
        exact (hm h g).pre hg
      · cases h
    · exact hm h g
    · exact hm h g
theorem mono_askN{k:Nat}{c:Code}{m:St→Ask (Ex × St)}(hm:∀ st,Mono (m st))(st:St):Mono (askN P k c m st):=fun s r s' h p hp=>by
  unfold askN at h
  cases ha:s.auto with
  | true=>rw [ha] at h;exact hm _ _ _ _ h p hp
  | false =>
    rw [ha] at h
    dsimp only at h
    split at h
    · split at h
      · cases h;exact List.mem_cons_of_mem _ hp
      · cases h
    · exact hm _ _ _ _ h p hp
    · split at h
      · exact hm _ _ _ _ h p hp
      · cases h
    · exact hm _ _ _ _ h p hp
    · exact hm _ _ _ _ h p hp
theorem mono_auto{α:Type}{m:Ask α}(hm:Mono m):Mono (autoOnly m):=fun s r s' h p hp=>by
  unfold autoOnly at h
  split at h
  · exact hm _ _ _ h p hp
  · cases h
theorem auto_inv{α:Type}{m:Ask α}{s s':AS}{r:α}(h:autoOnly m s=some (r,s')):m s=some (r,s'):=by
  unfold autoOnly at h
  split at h
  · exact h
  · cases h

theorem runR_sound(hT:∀ t i,T t=some i→tiOf P t=some i)(hE:EnvOK P E)(hm:P.follows .mixedOrders=true){id:Nat}{ops:Array Oper}{d:Bool}{st st':St}{s s':AS}(h:runR P T E ops d st s=some (st',s'))(g:Good s'){k:Nat}:CodeOK P k (.region id ops d) st .normal st':=by
  intro C0 M0 w0 a w _ hs ro hro n
  cases d with
  | false =>
    refine wpIn_region ?_
    have:=runL_sound hT hE ops.toList 0 (fun j=>by simp) h g C0 M0 w0 a w hs ro n (fun e' a' w'=>e'=Ex.normal.toExit∧Sim P C0 M0 w0 st' a' w') (fun a' w' h'=>⟨rfl,h'⟩)
    simpa using this
  | true =>
    obtain ⟨_,s1,h1,k1⟩:=ask_bind h
    obtain ⟨e1,rfl⟩:=ask_lift h1
    obtain ⟨r,s2,h2,k2⟩:=ask_bind k1
    obtain ⟨_,s3,h3,k3⟩:=ask_bind k2
    obtain ⟨e3,rfl⟩:=ask_lift h3
    obtain ⟨rfl,rfl⟩:=ask_pure k3
    obtain ⟨hB,_⟩:=ite_some e1
    obtain ⟨hA,_⟩:=ite_some e3
    obtain ⟨os,hfts,hlex⟩:=runD_lex ops.toList _ (fts:=r.1) (fin:=r.2) h2 g
    unfold Region.lexB at hB
    rw [Bool.and_eq_true] at hB
    have hlen:os.length=ops.toList.length:=by
      have:∀ {l:List Oper} {id:Nat} {st:St} {os:List Out1} {fin:St},LexR P T E ops.toList id l st os fin→os.length=l.length:=by
        intro l
        induction l with
        | nil=>intro id st os fin h;cases h;rfl
        | cons o l ih=>intro id st os fin h;cases h with | cons _ _ _ _ q os _ h hr=>simp [ih hr]
      exact this hlex
    have key:AnyR P T E ops.toList st.m.length (fun k=>os.getD k (.any,[],none)) r.2 ops.toList.length (Array.replicate ops.size false) st:=by
      refine AnyR.lex ops.toList 0 _ st os (fun j=>by simp) (fun j q hj=>by simp [List.getD_eq_getElem?_getD,hj]) (fun j hj=>absurd hj (Nat.not_lt_zero _)) (fun j oj hj hl => ?_) (fun i j _ hij hj => ?_) (by simpa using hB.2) (by simpa [ido] using hlex)
      · exfalso
        rcases Nat.lt_or_ge j ops.size with h' | h'
        · simp [h'] at hl
        · simp [Nat.not_lt.2 h'] at hl
      have hj2:j<os.length:=by
        rw [hlen]
        obtain ⟨o,ho⟩:=Option.isSome_iff_exists.1 hj
        exact (List.getElem?_eq_some_iff.1 ho).1
      have:=apartL_spec r.1 0 hA i j (ftOf os[i]) (ftOf os[j]) hij (by rw [hfts,List.getElem?_map,List.getElem?_eq_getElem (by omega)];rfl) (by rw [hfts,List.getElem?_map,List.getElem?_eq_getElem hj2];rfl)
      rw [Nat.zero_add,Nat.zero_add] at this
      simp only [List.getD_eq_getElem?_getD,List.getElem?_eq_getElem hj2,List.getElem?_eq_getElem (show i<os.length by omega),Option.getD_some,Array.toArray_toList]
      exact this
    refine wpIn_region_any hm ?_
    have:=AnyR.sound hT hE (C0:=C0) (M0:=M0) (w0:=w0) (ro:=ro) (n:=n) (Q:=fun e' a' w'=>e'=Ex.normal.toExit∧Sim P C0 M0 w0 r.2 a' w') (fun a' w' h'=>⟨rfl,h'⟩) _ _ _ a _ key (hs.drawn (w.drawn+1))
    simpa using this

theorem stepR_scope{b:Frame}{a:Act}{k:List Item}{cs:List Frame}{c:Code}:step P (lone (b.atR a (.code (.scope c)::k)) cs w) = .next (lone (b.atR a (.code c :: .inScope c::k)) cs w) :=
  step_lone_go (by simp [stepG,stepG.exec,Frame.atR])
theorem stepR_inScope{b:Frame}{a:Act}{k:List Item}{cs:List Frame}{c:Code}:step P (lone (b.atR a (.inScope c::k)) cs w) = .next (lone (b.atR a k) cs w) :=
  step_lone_go (by simp [stepG,stepG.exec,Frame.atR])
theorem wpIn_scope{F:Fence}{n:Nat}{c:Code}{Q:Exit→Act→World→Prop}{a:Act}(h:c.wpIn F n P (fun e a w=>(∀ l,e ≠ .goto l)∧Q e a w) a w):(Code.scope c).wpIn F n P Q a w:=by
  intro b k cs hro hb hr
  have h0:(lone (b.atR a (.code (.scope c)::k)) cs w).fenced P F:=fenced_calm hb hr rfl
  obtain ⟨e,a₁,w₁,⟨hg,hq⟩,harr⟩:=h b (.inScope c::k) cs hro hb hr
  cases e with
  | normal=>exact ⟨.normal,a₁,w₁,hq,.head h0 stepR_scope (StepsIn.trans harr (.one (fenced_calm hb hr rfl) stepR_inScope))⟩
  | exit id =>
    have hx:exitTo id (.inScope c::k)=exitTo id k:=by simp [exitTo]
    exact ⟨.exit id,a₁,w₁,hq,fun k' hk => .head h0 stepR_scope (harr.1 k' (by rw [hx];exact hk)),
      fun hr' hk=>let ⟨k₁,h1,h2⟩:=harr.2 hr' (by rw [hx];exact hk);⟨k₁,h1,.head h0 stepR_scope h2⟩⟩
  | goto l=>exact absurd rfl (hg l)
  | ret=>exact ⟨_,a₁,w₁,hq,.of_steps (.one h0 stepR_scope) harr⟩
  | panic ch=>exact ⟨_,a₁,w₁,hq,.of_steps (.one h0 stepR_scope) harr⟩
  | outgrown=>exact ⟨_,a₁,w₁,hq,.of_steps (.one h0 stepR_scope) harr⟩

def LoopIn(F:Fence)(n:Nat)(P:Program)(c:Code)(Q:Exit→Act→World→Prop)(a:Act)(w:World):Prop :=
  ∀ (b:Frame) (k:List Item) (cs:List Frame),b.roundOf=F.round→F.fn b.fn→F.room (cs.length+1+n) →
    ∃ e a' w',Q e a' w'∧ArrivesIn (Machine.fenced P F) P (lone (b.atR a (.code c :: .inLoop c::k)) cs w) b k cs e a' w'

theorem LoopIn.step{F:Fence}{n:Nat}{c:Code}{Q:Exit→Act→World→Prop}{a:Act}(h:c.wpIn F n P (Exit.then (LoopIn F n P c Q) Q) a w):LoopIn F n P c Q a w:=by
  intro b k cs hro hb hr
  obtain ⟨e,a₁,w₁,hq,harr⟩:=h b (.inLoop c::k) cs hro hb hr
  cases e with
  | normal =>
    obtain ⟨e₂,a₂,w₂,hq₂,harr₂⟩:=hq b k cs hro hb hr
    exact ⟨e₂,a₂,w₂,hq₂,.of_steps (StepsIn.trans harr (.one (fenced_calm hb hr rfl) stepR_inLoop)) harr₂⟩
  | exit id=>exact ⟨_,a₁,w₁,hq,.pass (x := .inLoop c) rfl (fun _ _ => .inl (by simp)) harr⟩
  | goto l=>exact ⟨_,a₁,w₁,hq,.pass (x := .inLoop c) rfl (fun _ _ => .inl (by simp)) harr⟩
  | ret=>exact ⟨_,a₁,w₁,hq,.pass (x := .inLoop c) rfl (fun _ _ => .inl (by simp)) harr⟩
  | panic ch=>exact ⟨_,a₁,w₁,hq,.pass (x := .inLoop c) rfl (fun _ _ => .inl (by simp)) harr⟩
  | outgrown=>exact ⟨_,a₁,w₁,hq,.pass (x := .inLoop c) rfl (fun _ _ => .inl (by simp)) harr⟩
theorem LoopIn.wp{F:Fence}{n:Nat}{c:Code}{Q:Exit→Act→World→Prop}{a:Act}(h:LoopIn F n P c Q a w):(Code.loop c).wpIn F n P Q a w:=by
  intro b k cs hro hb hr
  obtain ⟨e,a',w',hq,harr⟩:=h b k cs hro hb hr
  exact ⟨e,a',w',hq,.of_steps (.one (fenced_calm hb hr rfl) stepR_loop) harr⟩
end
section
variable {P:Program} {T:TT} {E:Env} {C C0:Cx} {M M0:Mem} {w w0:World}

theorem mono_runR{ops:Array Oper}{d:Bool}{st:St}:Mono (runR P T E ops d st):=by
  unfold runR;split
  · exact mono_runL
  · exact mono_lb fun _=>mono_bind mono_runD fun _=>mono_lb fun _=>mono_pure _
theorem mono_loopN{b:St→Ask (Ex × St)}(h:∀ st,Mono (b st)):∀ (n:Nat) (st:St),Mono (loopN b n st)
  | 0,_=>mono_fail
  | n+1,st=>by
    unfold loopN
    refine mono_bind (h st) fun r => ?_
    split
    · exact mono_loopN h n _
    · exact mono_pure _
theorem mono_runC{k fuel:Nat}:∀ (c:Code) (st:St),Mono (runC P T E k fuel c st):=by
  intro c
  induction c with
  | skip=>exact fun st=>mono_pure _
  | region id ops d=>exact mono_askN fun st=>mono_bind mono_runR fun _=>mono_pure _
  | seq a b iha ihb =>
    refine mono_askN fun st => ?_
    refine mono_bind (iha st) fun r => ?_
    split
    · exact ihb _
    · exact mono_pure _
  | cond c a b iha ihb =>
    refine mono_askN fun st => ?_
    refine mono_lb fun _=>mono_bind mono_C fun _ => ?_
    split
    · exact iha _
    · exact ihb _
  | block id b ih =>
    refine mono_askN fun st => ?_
    refine mono_bind (ih st) fun r => ?_
    split
    · split <;> exact mono_pure _
    · exact mono_pure _
  | loop b ih=>exact mono_askN fun st=>mono_auto (mono_loopN ih _ _)
  | exit id=>exact fun st=>mono_pure _
  | label l=>exact fun st=>mono_pure _
  | scope b ih=>exact ih
  | ret=>exact fun st=>mono_pure _
  | _=>exact mono_askN fun st=>mono_fail

theorem loopN_sound{K:Nat}{c:Code}{b:St→Ask (Ex × St)}(hm:∀ st,Mono (b st))(h:∀ {st e st' s s'},b st s=some ((e,st'),s')→Good s'→CodeOK P K c st e st'):∀ (n:Nat) {st:St} {e:Ex} {st':St} {s s':AS},loopN b n st s=some ((e,st'),s')→Good s' →
    ∀ (C0:Cx) (M0:Mem) (w0:World) (a:Act) (w:World),M0.length≤K→Sim P C0 M0 w0 st a w→∀ (ro:Option Nat),RoOK ro c→∀ (k:Nat),LoopIn (Fen ro) k P c (fun e' a' w'=>e'=e.toExit∧e' ≠ .normal∧Sim P C0 M0 w0 st' a' w') a w
  | 0,st,e,st',s,s',h0,_=>(ask_fail h0).elim
  | n+1,st,e,st',s,s',h0,g=>by
    intro C0 M0 w0 a w hK hs ro hro k
    unfold loopN at h0
    obtain ⟨⟨e1,st1⟩,s1,h1,k1⟩:=ask_bind h0
    refine LoopIn.step ?_
    cases e1 with
    | normal =>
      have g1:=(mono_loopN hm n st1).good k1 g
      have ih:=loopN_sound hm h n k1 g C0 M0 w0
      refine wpIn_mono (h h1 g1 C0 M0 w0 a w hK hs ro hro k) ?_
      rintro e' a' w' ⟨rfl,hs'⟩
      exact ih a' w' hK hs' ro hro k
    | ret =>
      obtain ⟨he,rfl⟩:=ask_pure k1
      cases he
      refine wpIn_mono (h h1 g C0 M0 w0 a w hK hs ro hro k) ?_
      rintro e' a' w' ⟨rfl,hs'⟩
      exact ⟨rfl,nofun,hs'⟩
    | exit id =>
      obtain ⟨he,rfl⟩:=ask_pure k1
      cases he
      refine wpIn_mono (h h1 g C0 M0 w0 a w hK hs ro hro k) ?_
      rintro e' a' w' ⟨rfl,hs'⟩
      exact ⟨rfl,nofun,hs'⟩

theorem runC_sound(hT:∀ t i,T t=some i→tiOf P t=some i)(hE:EnvOK P E)(hm:P.follows .mixedOrders=true){k fuel:Nat}:∀ (c:Code) {st:St} {e:Ex} {st':St} {s s':AS},runC P T E k fuel c st s=some ((e,st'),s')→Good s'→CodeOK P k c st e st':=by
  intro c
  induction c with
  | skip =>
    intro st e st' s s' h g C0 M0 w0 a w hk hs ro hro n
    obtain ⟨he,rfl⟩:=ask_pure h
    cases he
    exact wpIn_skip ⟨rfl,hs⟩
  | region id ops d =>
    intro st e st' s s' h g
    refine askN_sound ?_ h g
    intro st st' e s s' h g
    obtain ⟨st1,s1,h1,k1⟩:=ask_bind h
    obtain ⟨he,rfl⟩:=ask_pure k1
    cases he
    exact runR_sound hT hE hm h1 g
  | seq a b iha ihb =>
    intro st e st' s s' h g
    refine askN_sound ?_ h g
    intro st st' e s s' h g C0 M0 w0 ac w hk hs ro hro n
    obtain ⟨⟨e1,st1⟩,s1,h1,k1⟩:=ask_bind h
    refine wpIn_seq ?_
    cases e1 with
    | normal =>
      have g1:=(mono_runC b st1).good k1 g
      refine wpIn_mono (iha h1 g1 C0 M0 w0 ac w hk hs ro hro.seq1 n) ?_
      rintro e' a' w' ⟨rfl,hs'⟩
      exact ihb k1 g C0 M0 w0 a' w' hk hs' ro hro.seq2 n
    | ret =>
      obtain ⟨he,rfl⟩:=ask_pure k1
      cases he
      refine wpIn_mono (iha h1 g C0 M0 w0 ac w hk hs ro hro.seq1 n) ?_
      rintro e' a' w' ⟨rfl,hs'⟩
      exact ⟨rfl,hs'⟩
    | exit id =>
      obtain ⟨he,rfl⟩:=ask_pure k1
      cases he
      refine wpIn_mono (iha h1 g C0 M0 w0 ac w hk hs ro hro.seq1 n) ?_
      rintro e' a' w' ⟨rfl,hs'⟩
      exact ⟨rfl,hs'⟩
  | cond c a b iha ihb =>
    intro st e st' s s' h g
    refine askN_sound ?_ h g
    intro st st' e s s' h g C0 M0 w0 ac w hk hs ro hro n
    obtain ⟨x,s1,h1,k1⟩:=ask_bind h
    obtain ⟨e1,rfl⟩:=ask_lift h1
    obtain ⟨d,s2,h2,k2⟩:=ask_bind k1
    have hs0:=hs
    obtain ⟨C,hS,_⟩:=hs0
    cases d with
    | true =>
      obtain ⟨hb,_⟩:=askC_sound (hS.ev e1) h2 ((mono_runC a st).good k2 g)
      exact wpIn_cond_true hb (iha k2 g C0 M0 w0 ac w hk hs ro hro.cond1 n)
    | false =>
      obtain ⟨hb,_⟩:=askC_sound (hS.ev e1) h2 ((mono_runC b st).good k2 g)
      exact wpIn_cond_false hb (ihb k2 g C0 M0 w0 ac w hk hs ro hro.cond2 n)
  | block id b ih =>
    intro st e st' s s' h g
    refine askN_sound ?_ h g
    intro st st' e s s' h g C0 M0 w0 ac w hk hs ro hro n
    obtain ⟨⟨e1,st1⟩,s1,h1,k1⟩:=ask_bind h
    refine wpIn_block ?_
    cases e1 with
    | normal =>
      obtain ⟨he,rfl⟩:=ask_pure k1
      cases he
      refine wpIn_mono (ih h1 g C0 M0 w0 ac w hk hs ro hro.block n) ?_
      rintro e' a' w' ⟨rfl,hs'⟩
      exact ⟨rfl,hs'⟩
    | ret =>
      obtain ⟨he,rfl⟩:=ask_pure k1
      cases he
      refine wpIn_mono (ih h1 g C0 M0 w0 ac w hk hs ro hro.block n) ?_
      rintro e' a' w' ⟨rfl,hs'⟩
      exact ⟨rfl,hs'⟩
    | exit i =>
      dsimp only at k1
      cases hb:Nat.beq i id with
      | true =>
        rw [hb] at k1
        obtain ⟨he,rfl⟩:=ask_pure k1
        cases he
        have hid:i=id:=Nat.eq_of_beq_eq_true hb
        refine wpIn_mono (ih h1 g C0 M0 w0 ac w hk hs ro hro.block n) ?_
        rintro e' a' w' ⟨rfl,hs'⟩
        simp only [Ex.toExit,Exit.inBlock,hid,if_true]
        exact ⟨trivial,hs'⟩
      | false =>
        rw [hb] at k1
        obtain ⟨he,rfl⟩:=ask_pure k1
        cases he
        have hid:i≠id:=Nat.ne_of_beq_eq_false hb
        refine wpIn_mono (ih h1 g C0 M0 w0 ac w hk hs ro hro.block n) ?_
        rintro e' a' w' ⟨rfl,hs'⟩
        simp only [Ex.toExit,Exit.inBlock,hid,if_false]
        exact ⟨trivial,hs'⟩
  | loop b ih =>
    intro st e st' s s' h g
    refine askN_sound ?_ h g
    intro st st' e s s' h g C0 M0 w0 ac w hk hs ro hro n
    refine wpIn_mono (LoopIn.wp (loopN_sound (mono_runC b) ih fuel (auto_inv h) g C0 M0 w0 ac w hk hs ro hro.loop n)) ?_
    rintro e' a' w' ⟨h1,_,h2⟩
    exact ⟨h1,h2⟩
  | exit id =>
    intro st e st' s s' h g C0 M0 w0 a w hk hs ro hro n
    obtain ⟨he,rfl⟩:=ask_pure h
    cases he
    exact wpIn_exit ⟨rfl,hs⟩
  | label l =>
    intro st e st' s s' h g C0 M0 w0 a w hk hs ro hro n
    obtain ⟨he,rfl⟩:=ask_pure h
    cases he
    exact wpIn_label ⟨rfl,hs⟩
  | scope b ih =>
    intro st e st' s s' h g C0 M0 w0 a w hk hs ro hro n
    refine wpIn_scope (wpIn_mono (ih h g C0 M0 w0 a w hk hs ro hro.scope n) ?_)
    rintro e' a' w' ⟨rfl,hs'⟩
    exact ⟨fun l=>by cases e <;> simp [Ex.toExit],rfl,hs'⟩
  | ret =>
    intro st e st' s s' h g C0 M0 w0 a w hk hs ro hro n
    obtain ⟨he,rfl⟩:=ask_pure h
    cases he
    exact wpIn_ret ⟨rfl,hs⟩
  | _ =>
    intro st e st' s s' h g
    refine askN_sound ?_ h g
    intro st st' e s s' h g
    exact (ask_fail h).elim
end
section
variable {P:Program} {T:TT} {E:Env} {C C0:Cx} {M M0:Mem} {w w0:World}

def resV(T:TT)(st:St):ResultVar→Ask AV
  | .tmp t=>lift st.t[t]?
  | .cell a t=>do
    let x ← lift st.t[a]?
    vload T st.m t x
def resL(T:TT)(st:St):List ResultVar→Ask (List AV)
  | []=>pure []
  | r::l=>do
    let x ← resV T st r
    let xs ← resL T st l
    pure (x::xs)
def resA:List AV→AV
  | [x]=>x
  | l => .tup l

def noPkM:Mem→Bool
  | []=>true
  | some (.pk _ _ _ _)::_=>false
  | _::r=>noPkM r
theorem noPkM_inv:∀ {m:Mem},noPkM m=true→NoPk m
  | [],_,i,o,h=>by simp at h
  | none::r,hm,i,o,h=>by
    cases i with
    | zero=>simp at h
    | succ i=>exact noPkM_inv (m:=r) hm i o (by simpa using h)
  | some x::r,hm,i,o,h=>by
    cases i with
    | zero =>
      simp at h;subst h
      cases x with
      | pk=>simp [noPkM] at hm
      | _=>rfl
    | succ i =>
      refine noPkM_inv (m:=r) ?_ i o (by simpa using h)
      cases x with
      | pk=>simp [noPkM] at hm
      | _=>simpa [noPkM] using hm
def runF(P:Program)(T:TT)(E:Env)(fuel:Nat)(fn:Func)(c:Code)(args:List AV)(m:Mem):Ask (AV × Mem):=do
  lift (if noPkM m=true then some () else none)
  let r ← runC P T E m.length fuel c ⟨args++List.replicate (fn.ntmps-args.length) .any,m⟩
  match r.1 with
  | .exit _=>fail
  | _=>do
    let l ← resL T r.2 fn.results.toList
    pure (resA l,r.2.m)

def FMM(P:Program)(f:Nat)(args:List AV)(M:Mem)(r:AV)(M':Mem):Prop :=
  ∀ (C:Cx) (w:World) (us:List Value),RepL C M w args us→MemOK P C M w→∀ n,CallsIn Fence.wide n P f us.toArray w (fun e w'=>∃ u,e = .returned u∧∃ C',Fr C M w C' M' w'∧MemOK P C' M' w'∧Rep C' M' w' r u)

def FMMP(P:Program)(f:Nat)(args:List AV)(M:Mem)(r:AV)(M':Mem):Prop :=
  ∀ (C:Cx) (w:World) (us:List Value),RepL C M w args us→MemOK P C M w→∀ n,CallsIn Fence.wide n P f us.toArray w (fun e w'=>∃ u,e = .returned u∧∃ C',Fr C M w C' M' w'∧MemOK P C' M' w'∧Rep C' M' w' r u∧PackOK (C.with []) M M' C' w w')
theorem FMMP.fmm{f:Nat}{args:List AV}{M M':Mem}{r:AV}(h:FMMP P f args M r M'):FMM P f args M r M':=fun C w us hus hM n=>(h C w us hus hM n).mono fun _ w' ⟨u,q,C',h1,h2,h3,_⟩=>⟨u,q,C',h1,h2,h3⟩

theorem mono_resL{st:St}:∀ (l:List ResultVar),Mono (resL T st l)
  | []=>mono_pure _
  | r::l=>by
    unfold resL
    refine mono_bind ?_ fun _=>mono_bind (mono_resL l) fun _=>mono_pure _
    cases r with
    | tmp t=>exact mono_lift _
    | cell a t=>exact mono_lb fun _=>mono_vload

def resSem(tmps:Array Value):ResultVar→Sem Value
  | .tmp t=>pure (tmps.getD t undef)
  | .cell a t=>do loadVar t (← asAddr (tmps.getD a undef))

theorem vload_ptr{t:Nat}{y x:AV}{u:Value}{s s':AS}(h:vload T M t y s=some (x,s'))(hy:Rep C M w y u):∃ p,u = .pointer (some p):=by
  unfold vload at h
  obtain ⟨i,s1,h1,k1⟩:=ask_bind h
  split at k1
  · rename_i id off
    obtain ⟨o,s2,h2,k2⟩:=ask_bind k1
    obtain ⟨e2,rfl⟩:=ask_lift h2
    have hl:o.live=true:=by
      cases o with
      | dead=>exact (ask_fail k2).elim
      | _=>rfl
    obtain ⟨b,hu,_⟩:=ptr_live hy (live_of (objAt_inv e2) hl)
    exact ⟨_,hu⟩
  · cases hy;exact ⟨_,rfl⟩
  · exact (ask_fail k1).elim

theorem resV_sound(hT:∀ t i,T t=some i→tiOf P t=some i)(hM:MemOK P C M w){ts:List AV}{us:Array Value}(hS:Slots C M w ts us){r:ResultVar}{x:AV}{s s':AS}(h:resV T ⟨ts,M⟩ r s=some (x,s'))(g:Good s') :
    ∃ u,(resSem us r).run P w = .ok u w∧Rep C M w x u:=by
  cases r with
  | tmp t =>
    obtain ⟨e1,rfl⟩:=ask_lift h
    exact ⟨_,rfl,hS.at e1⟩
  | cell a t =>
    obtain ⟨y,s1,h1,k1⟩:=ask_bind h
    obtain ⟨e1,rfl⟩:=ask_lift h1
    obtain ⟨_,u,h2,h3⟩:=vload_sound hT hM (hS.at e1) k1 g
    refine ⟨u,?_,h3⟩
    obtain ⟨p,hp⟩:=vload_ptr k1 (hS.at e1)
    unfold Instr.loadAt at h2
    simp only [resSem]
    rw [hp] at h2 ⊢
    exact h2

theorem resL_sound(hT:∀ t i,T t=some i→tiOf P t=some i)(hM:MemOK P C M w){ts:List AV}{us:Array Value}(hS:Slots C M w ts us):∀ (l:List ResultVar) {xs:List AV} {s s':AS},resL T ⟨ts,M⟩ l s=some (xs,s')→Good s' →
    ∃ vs:List Value,(l.mapM (resSem us)).run P w = .ok vs w∧RepL C M w xs vs
  | [],xs,s,s',h,g=>by
    obtain ⟨rfl,rfl⟩:=ask_pure h
    exact ⟨[],rfl,.nil⟩
  | r::l,xs,s,s',h,g=>by
    obtain ⟨x,s1,h1,k1⟩:=ask_bind h
    obtain ⟨ys,s2,h2,k2⟩:=ask_bind k1
    obtain ⟨rfl,rfl⟩:=ask_pure k2
    obtain ⟨u,e1,r1⟩:=resV_sound hT hM hS h1 ((mono_resL l).good h2 g)
    obtain ⟨vs,e2,r2⟩:=resL_sound hT hM hS l h2 g
    refine ⟨u::vs,?_,.cons _ _ _ _ r1 r2⟩
    rw [List.mapM_cons,Sem.run_bind,e1,Result.andThen_ok,Sem.run_bind,e2,Result.andThen_ok,Sem.run_pure]

theorem results_run{fn:Func}{us:Array Value}{vs:List Value}(h:(fn.results.toList.mapM (resSem us)).run P w = .ok vs w):(results fn us).run P w = .ok (if _:vs.length=1 then vs[0] else .tuple vs.toArray) w:=by
  have e:(results fn us)=(do let vs ← fn.results.mapM (resSem us);pure (if h:vs.size=1 then vs[0] else .tuple vs)):=by
    unfold results
    congr 1
  rw [e,Sem.run_bind,Array.mapM_eq_mapM_toList,Sem.run_map,h,Result.andThen_ok,Result.andThen_ok,Sem.run_pure]
  congr 1

theorem res_rep{xs:List AV}{vs:List Value}(h:RepL C M w xs vs):Rep C M w (resA xs) (if _:vs.length=1 then vs[0] else .tuple vs.toArray):=by
  have hl:=h.len
  cases h with
  | nil=>exact .tup [] _ rfl (fun i h=>by simp at h)
  | cons x u l k hx hr =>
    cases hr with
    | nil=>exact hx
    | cons y v l k hy hr =>
      have hne:¬ (u::v::k).length=1:=by simp
      rw [dif_neg hne]
      refine .tup _ _ (by simpa using hl) (fun i hi => ?_)
      have:=(RepL.cons x u _ _ hx (RepL.cons y v l k hy hr)).at i hi
      rwa [← list_toArray_getD] at this

theorem Sim.take{st:St}{a:Act}{d:Deferred}{ds:List Deferred}(h:Sim P C0 M0 w0 st a w)(hd:a.defers=d::ds):∃ D,d=mark D∧w.heap[D]? = some (.deferred (some []))∧Sim P C0 M0 w0 st { a with defers:=ds } (w.putObj D (.deferred none)):=by
  obtain ⟨C,hS,hM,hF,⟨l,h1,h2,h3⟩,hR,hP⟩:=h
  rw [hd] at h1
  cases l with
  | nil=>simp at h1
  | cons D l =>
    rw [List.map_cons,List.cons.injEq] at h1
    obtain ⟨rfl,rfl⟩:=h1
    obtain ⟨q1,q2,q3⟩:=h3 D (by simp)
    obtain ⟨hnd,hnd2⟩:=List.nodup_cons.1 h2
    have hg:=grownBy_putObj' w D (.deferred none)
    have hsz:(w.putObj D (.deferred none)).heap.size=w.heap.size:=by simp [World.putObj]
    have hk:∀ b,b≠D→(w.putObj D (.deferred none)).heap[b]? = w.heap[b]? := fun b hb=>by
      rcases Nat.lt_or_ge b w.heap.size with h | h
      · exact hg.block b h (by simpa using hb)
      · rw [Array.getElem?_eq_none h,Array.getElem?_eq_none (by omega)]
    have hlive:∀ (id:Nat) (o:AO) (b:Nat),st.m[id]? = some (some o)→o.live=true→C.ι id=some b→b≠D:=fun id o b ho hl hb e=>by
      subst e;exact live_obj hM hP ho hl hb q1
    have hL:Le C C st.m st.m w (w.putObj D (.deferred none)):=⟨fun _ o h=>⟨o,h⟩,fun _ _ _ _ _ cs h=>⟨cs,h⟩,fun _ o h o' h' hl=>by rw [h] at h';cases h';exact ⟨hl,rfl,rfl⟩,fun _ h=>h,fun b hb=>hk b fun e=>q3 (e ▸ hb)⟩
    refine ⟨D,rfl,q1,C,hS.le hL,⟨fun i ty' n cs hm => ?_,fun i ty' cs hm => ?_,fun i es cl hm => ?_,hM.inj,hM.nF,fun b hb=>by rw [hsz];exact hM.Fs b hb,fun i x b hm hl hb=>by rw [hsz];exact hM.lt i x b hm hl hb⟩,
      ⟨hg.os.trans hF.os,hg.tape.trans hF.tape,hg.output.trans hF.out,Nat.le_trans hF.size hg.size,fun b hb hn=>(hk b (by omega)).trans (hF.keep b hb hn),hF.ids,hF.row,hF.liv,hF.new,hF.F1,hF.F2⟩,⟨l,rfl,hnd2,fun D' hD' => ?_⟩,fun p hp => ?_,fun i to ti sz L hm => ?_,hP.2⟩
    · rcases hM.row _ _ _ _ hm with h4 | ⟨b,arr,inf,q0,q1',q2',q3',q4,q5,q6,q7,q8⟩
      · exact .inl h4
      · exact .inr ⟨b,arr,inf,q0,by rw [hk b (hlive _ _ _ hm rfl q0)];exact q1',q2',q3',q4,q5,q6,fun j hj=>(q7 j hj).mono hL.F hL.fz,q8⟩
    · obtain ⟨b,arr,q0,q1',q2',q3',q4⟩:=hM.box _ _ _ hm
      exact ⟨b,arr,q0,by rw [hk b (hlive _ _ _ hm rfl q0)];exact q1',q2',fun j hj=>(q3' j hj).mono hL,q4⟩
    · obtain ⟨b,arr,q0,q1',q2',q3'⟩:=hM.mp _ _ _ hm
      refine ⟨b,arr,q0,by rw [hk b (hlive _ _ _ hm rfl q0)];exact q1',q2',fun j hj => ?_⟩
      obtain ⟨en,r1,r2,r3,r4⟩:=q3' j hj
      exact ⟨en,r1,r2,r3,r4.mono hL.F hL.fz⟩
    · obtain ⟨r1,r2,r3⟩:=h3 D' (List.mem_cons_of_mem _ hD')
      exact ⟨by rw [hk D' (fun e=>hnd (e ▸ hD'))];exact r1,r2,r3⟩
    · obtain ⟨r1,r2,r3,r4,r5⟩:=hR p hp
      exact ⟨by rw [hk p.1 (fun e=>r3 (by rw [e,q1] at r1;exact (Option.some.inj r1).symm))];exact r1,r2,r3,r4,r5⟩
    · obtain ⟨p,p0,p1⟩:=hP.1 _ _ _ _ _ hm
      exact ⟨p.move p.io rfl (fun _ h=>h) hL.fz fun b hb=>⟨hk b (fun e=>by
        obtain ⟨_,arr,ty,r1⟩:=p.lt hb
        rw [e,q1] at r1;cases r1),p.own b hb⟩,p0,p1⟩

theorem runF_soundP(hT:∀ t i,T t=some i→tiOf P t=some i)(hE:EnvOK P E)(hm:P.follows .mixedOrders=true){fuel f:Nat}{fn:Func}{c:Code}(hf:P.funcs[f]? = some fn)(hb:fn.body=some c){args:List AV}{r:AV}{M':Mem}{s s':AS}
    (h:runF P T E fuel fn c args M s=some ((r,M'),s')) (g:Good s'):FMMP P f args M r M':=by
  intro C w us hus hM n
  unfold runF at h
  obtain ⟨_,s0,h0,k0⟩:=ask_bind h
  obtain ⟨e0,rfl⟩:=ask_lift h0
  have hnp:=noPkM_inv (ite_some e0).1
  obtain ⟨⟨e,st⟩,s1,h1,k1⟩:=ask_bind k0
  have hlen:=hus.len
  have hS:Slots C M w (args++List.replicate (fn.ntmps-args.length) .any) (us.toArray++Array.replicate (fn.ntmps-us.toArray.size) undef):=by
    refine ⟨by simp [hlen],fun i hi => ?_⟩
    by_cases c1:i<args.length
    · rw [List.getElem_append_left c1,Array.getD_eq_getD_getElem?,Array.getElem?_append_left (by simp;omega)]
      have:=hus.at i c1
      rwa [← list_toArray_getD,Array.getD_eq_getD_getElem?] at this
    · rw [List.getElem_append_right (by omega),List.getElem_replicate]
      exact .any _
  have hsim:Sim P (C.with []) M w ⟨args++List.replicate (fn.ntmps-args.length) .any,M⟩ { tmps:=us.toArray++Array.replicate (fn.ntmps-us.toArray.size) undef,defers:=[] } w:=⟨C,hS,hM,(Fr.refl ..).based [],.nil rfl hnp⟩
  refine callsIn_of_wp_marks hf hb trivial ?_
  have fin:∀ (e':Exit) (a':Act) (w':World),(e' = .normal∨e' = .ret)→Sim P (C.with []) M w st a' w'→(∃ l s2,resL T st fn.results.toList s1=some (l,s2)∧Good s2∧r=resA l∧M'=st.m)→bodyPostM Fence.wide n P fn (fun e w'=>∃ u,e = .returned u∧∃ C',Fr C M w C' M' w'∧MemOK P C' M' w'∧Rep C' M' w' r u∧PackOK (C.with []) M M' C' w w') e' a' w':=by
    rintro e' a' w' he hs' ⟨l,s2,h2,g2,rfl,rfl⟩
    have key:∀ (ds:List Deferred) (a':Act) (w':World),a'.defers=ds→Sim P (C.with []) M w st a' w'→LeavesInM Fence.wide n P fn a'.tmps (fun e w'=>∃ u,e = .returned u∧∃ C',Fr C M w C' st.m w'∧MemOK P C' st.m w'∧Rep C' st.m w' (resA l) u∧PackOK (C.with []) M st.m C' w w') ds .returning w':=by
      intro ds
      induction ds with
      | nil =>
        rintro a' w' hd ⟨C',hS',hM',hF',_,_,hP'⟩
        obtain ⟨ts,m⟩:=st
        obtain ⟨vs,e2,r2⟩:=resL_sound hT hM' hS' fn.results.toList h2 g2
        exact ⟨_,results_run e2,_,rfl,C',hF'.unbased,hM',res_rep r2,hP'⟩
      | cons d ds ih =>
        intro a' w' hd hs'
        obtain ⟨D,rfl,hD,hs2⟩:=hs'.take hd
        exact ⟨by simp,.inl ⟨_,_,rfl,run_takeDeferred hD,ih { a' with defers:=ds } _ rfl hs2⟩⟩
    rcases he with rfl | rfl
    · exact key _ a' w' rfl hs'
    · exact key _ a' w' rfl hs'
  have out:(e = .normal∨e = .ret)∧∃ l s2,resL T st fn.results.toList s1=some (l,s2)∧Good s2∧r=resA l∧M'=st.m:=by
    cases e with
    | exit id=>exact (ask_fail k1).elim
    | normal =>
      obtain ⟨l,s2,h2,k2⟩:=ask_bind k1
      obtain ⟨he,rfl⟩:=ask_pure k2
      cases he
      exact ⟨.inl rfl,l,_,h2,g,rfl,rfl⟩
    | ret =>
      obtain ⟨l,s2,h2,k2⟩:=ask_bind k1
      obtain ⟨he,rfl⟩:=ask_pure k2
      cases he
      exact ⟨.inr rfl,l,_,h2,g,rfl,rfl⟩
  obtain ⟨he,l,s2,h2,g2,e3,e4⟩:=out
  have g1:=(mono_resL _).good h2 g2
  refine wpIn_mono (runC_sound hT hE hm c h1 g1 (C.with []) M w _ w (Nat.le_refl _) hsim none (.inl rfl) n) ?_
  rintro e' a' w' ⟨rfl,hs'⟩
  exact fin _ a' w' (by rcases he with rfl | rfl <;> simp [Ex.toExit]) hs' ⟨l,s2,h2,g2,e3,e4⟩
theorem runF_sound(hT:∀ t i,T t=some i→tiOf P t=some i)(hE:EnvOK P E)(hm:P.follows .mixedOrders=true){fuel f:Nat}{fn:Func}{c:Code}(hf:P.funcs[f]? = some fn)(hb:fn.body=some c){args:List AV}{r:AV}{M':Mem}{s s':AS}
    (h:runF P T E fuel fn c args M s=some ((r,M'),s')) (g:Good s'):FMM P f args M r M':=(runF_soundP hT hE hm hf hb h g).fmm
end
section
variable {P:Program} {T:TT} {E:Env} {C C0:Cx} {M M0:Mem} {w w0:World}

mutual
def rigP:PV→Bool
  | .v _=>true
  | .sl _ cs=>match cs with
    | []=>true
    | _=>false
  | .agg cs=>rigPs cs
def rigPs:List PV→Bool
  | []=>true
  | x::r=>match rigP x with
    | true=>rigPs r
    | false=>false
end
mutual
def rig:AV→Bool
  | .p x=>rigP x
  | .kb _=>true
  | .any=>true
  | .yld _=>true
  | .agg cs=>rigL cs
  | .fn _ a b=>match rigL a with
    | true=>rigL b
    | false=>false
  | _=>false
def rigL:List AV→Bool
  | []=>true
  | x::r=>match rig x with
    | true=>rigL r
    | false=>false
end
mutual
def noRef:AV→Bool
  | .p _=>true
  | .kb _=>true
  | .any=>true
  | .yld _=>true
  | .rp _ _=>true
  | .agg cs=>noRefL cs
  | .fn _ a b=>match noRefL a with
    | true=>noRefL b
    | false=>false
  | _=>false
def noRefL:List AV→Bool
  | []=>true
  | x::r=>match noRef x with
    | true=>noRefL r
    | false=>false
end

theorem rigPs_at:∀ {l:List PV},rigPs l=true→∀ i (h:i<l.length),rigP l[i]=true
  | [],_,i,h=>by simp at h
  | x::r,hr,i,h=>by
    unfold rigPs at hr
    split at hr
    · cases i with
      | zero=>assumption
      | succ i=>exact rigPs_at hr i (by simpa using h)
    · cases hr
theorem rigL_at:∀ {l:List AV},rigL l=true→∀ i (h:i<l.length),rig l[i]=true
  | [],_,i,h=>by simp at h
  | x::r,hr,i,h=>by
    unfold rigL at hr
    split at hr
    · cases i with
      | zero=>assumption
      | succ i=>exact rigL_at hr i (by simpa using h)
    · cases hr
theorem noRefL_at:∀ {l:List AV},noRefL l=true→∀ i (h:i<l.length),noRef l[i]=true
  | [],_,i,h=>by simp at h
  | x::r,hr,i,h=>by
    unfold noRefL at hr
    split at hr
    · cases i with
      | zero=>assumption
      | succ i=>exact noRefL_at hr i (by simpa using h)
    · cases hr

theorem RepP.rig{F G:Nat→Prop}{w w':World}{x:PV}{u:Value}(h:RepP F w x u)(hr:rigP x=true):RepP G w' x u:=by
  induction h with
  | v x=>exact .v x
  | sl n cs p cap us h1 h2 h3 _ h5 ih =>
    cases cs with
    | nil=>exact .sl n [] p cap us h1 h2 (fun i h=>by simp at h) (fun i h=>by simp at h) (fun i h=>by simp at h)
    | cons=>simp [rigP] at hr
  | agg cs vs h0 h1 _ ih =>
    have hr':rigPs cs=true:=by simpa [rigP] using hr
    exact .agg cs vs h0 h1 fun i hi=>ih i hi (rigPs_at hr' i hi)

theorem Rep.rig{C C':Cx}{M M':Mem}{w w':World}{x:AV}{u:Value}(h:Rep C M w x u)(hr:rig x=true):Rep C' M' w' x u:=by
  induction h with
  | p x u h=>exact .p x u (h.rig (by simpa [KV.rig] using hr))
  | any u=>exact .any u
  | kb b=>exact .kb b
  | yld l=>exact .yld l
  | agg cs vs h0 h1 _ ih =>
    have hr':rigL cs=true:=by simpa [KV.rig] using hr
    exact .agg cs vs h0 h1 fun i hi=>ih i hi (rigL_at hr' i hi)
  | fn f cs ds us vs h1 h2 _ _ ih1 ih2 =>
    simp only [KV.rig] at hr
    split at hr
    · rename_i hr1
      exact .fn f cs ds us vs h1 h2 (fun i hi=>ih1 i hi (rigL_at hr1 i hi)) (fun i hi=>ih2 i hi (rigL_at hr i hi))
    · cases hr
  | _=>simp [KV.rig] at hr

theorem Rep.noRef{C C':Cx}{M M':Mem}{w w':World}{x:AV}{u:Value}(h:Rep C M w x u)(hr:noRef x=true)(hF:∀ b,C.F b→C'.F b)(hz:∀ b,C.F b→w'.heap[b]? = w.heap[b]?):Rep C' M' w' x u:=by
  induction h with
  | p x u h=>exact .p x u (h.mono hF hz)
  | any u=>exact .any u
  | kb b=>exact .kb b
  | yld l=>exact .yld l
  | rp cs off b o us h1 h2 h3=>exact .rp cs off b o us (fun i hi=>⟨hF _ (h1 i hi).1,(cell_heap (hz _ (h1 i hi).1) _).trans (h1 i hi).2⟩) (fun i hi=>(h2 i hi).mono hF hz) h3
  | agg cs vs h0 h1 _ ih =>
    have hr':noRefL cs=true:=by simpa [KV.noRef] using hr
    exact .agg cs vs h0 h1 fun i hi=>ih i hi (noRefL_at hr' i hi)
  | fn f cs ds us vs h1 h2 _ _ ih1 ih2 =>
    simp only [KV.noRef] at hr
    split at hr
    · rename_i hr1
      exact .fn f cs ds us vs h1 h2 (fun i hi=>ih1 i hi (noRefL_at hr1 i hi)) (fun i hi=>ih2 i hi (noRefL_at hr i hi))
    · cases hr
  | _=>simp [KV.noRef] at hr

def Cx.bare(C:Cx)(G:Nat→Prop):Cx:={ ι:=fun _=>none,κ:=C.κ,F:=G }

section
variable {G:Nat→Prop} (hM:MemOK P C M w) (hG:∀ b,C.F b→G b) (hO:∀ (id:Nat) (o:AO) (b:Nat),M[id]? = some (some o)→o.live=true→C.ι id=some b→G b)
include hM hG hO

theorem view1_sound{x:AV}{u:Value}{y:PV}(h:Rep C M w x u)(hv:view1 M x=some y):RepP G w y u:=by
  unfold view1 at hv
  split at hv
  · cases hv;cases h with | p _ _ h=>exact h.mono hG (fun _ _=>rfl)
  · cases hv;cases h;exact .v _
  · split at hv
    · rename_i id _ r hr
      cases hv
      have ho:=rowAt_inv hr
      refine (closed_row hM ho h).mono (fun b hb => ?_) (fun _ _=>rfl)
      rcases hb with hb | ⟨_,hb⟩
      · exact hG b hb
      · exact hO _ _ b ho rfl hb
    · cases hv
  · cases hv

theorem viewC_sound:∀ {l:List AV} {us:Nat→Value} {ys:List PV},(∀ i (h:i<l.length),Rep C M w l[i] (us i))→viewC M l=some ys→ys.length=l.length∧∀ i (h:i<ys.length),RepP G w ys[i] (us i)
  | [],_,ys,_,hv=>by cases hv;exact ⟨rfl,fun i h=>by simp at h⟩
  | x::r,us,ys,h,hv=>by
    unfold viewC at hv
    split at hv
    · rename_i y h1
      split at hv
      · rename_i l h2
        cases hv
        obtain ⟨q1,q2⟩:=viewC_sound (us:=fun i=>us (i+1)) (fun i hi=>h (i+1) (by simpa using hi)) h2
        refine ⟨by simp [q1],fun i hi => ?_⟩
        cases i with
        | zero=>exact view1_sound hM hG hO (h 0 (by simp)) h1
        | succ i=>exact q2 i (by simpa using hi)
      · cases hv
    · cases hv

set_option linter.unusedSectionVars false in
mutual
theorem view_sound:∀ {x:AV} {u:Value} {y:AV},Rep C M w x u→view M x=some y→Rep (C.bare G) [] w y u
  | .p x,u,y,h,hv=>by
    simp only [view] at hv
    cases hv
    cases h with | p _ _ h=>exact .p _ _ (h.mono hG (fun _ _=>rfl))
  | .kb b,u,y,h,hv=>by simp only [view] at hv;cases hv;cases h;exact .kb _
  | .any,u,y,h,hv=>by simp only [view] at hv;cases hv;exact .any _
  | .yld l,u,y,h,hv=>by simp only [view] at hv;cases hv;cases h;exact .yld _
  | .own id,u,y,h,hv=>by
    simp only [view] at hv
    split at hv
    · rename_i r hr
      cases hv
      exact .p _ _ (view1_sound hM hG hO h (by simp only [view1,hr]))
    · cases hv
  | .rp cs off,u,y,h,hv=>by
    simp only [view] at hv
    cases hv
    cases h with
    | rp _ _ b o us h1 h2 h3=>exact .rp cs off b o us (fun i hi=>⟨hG _ (h1 i hi).1,(h1 i hi).2⟩) (fun i hi=>(h2 i hi).mono hG (fun _ _=>rfl)) h3
  | .ptr id off,u,y,h,hv=>by
    simp only [view] at hv
    split at hv
    · rename_i ty n cs ho
      cases hv
      have ho:=objAt_inv ho
      obtain ⟨b,rfl,hb⟩:=ptr_live h (live_of ho rfl)
      rcases hM.row _ _ _ _ ho with ⟨hn,_⟩ | ⟨b',arr,inf,hb',q1,q2,q3,q4,q5,q6,q7,q8⟩
      · rw [hb] at hn;cases hn
      · rw [hb] at hb';cases hb'
        have hle:cs.length≤arr.size:=by rw [q3,q4];exact Nat.mul_le_mul_right _ q5
        have:=Rep.rp (C:=C.bare G) (M:=[]) (w:=w) cs off b 0 (fun j=>arr.getD j undef) (fun i hi=>⟨hO _ _ b ho rfl hb,by rw [Nat.zero_add];exact cell_of_heap q1 (by omega)⟩) (fun i hi=>(q7 i hi).mono hG (fun _ _=>rfl)) q8
        rwa [Nat.zero_add] at this
    · rename_i ty cs ho
      have ho:=objAt_inv ho
      split at hv
      · rename_i xs hx
        cases hv
        obtain ⟨b,rfl,hb⟩:=ptr_live h (live_of ho rfl)
        obtain ⟨b',arr,hb',q1,q2,q3,q4⟩:=hM.box _ _ _ ho
        rw [hb] at hb';cases hb'
        obtain ⟨r1,r2⟩:=viewC_sound hM hG hO (us:=fun j=>arr.getD j undef) q3 hx
        have:=Rep.rp (C:=C.bare G) (M:=[]) (w:=w) xs off b 0 (fun j=>arr.getD j undef) (fun i hi=>⟨hO _ _ b ho rfl hb,by rw [Nat.zero_add];exact cell_of_heap q1 (by omega)⟩) r2 (fun i hi=>q4 i (by omega))
        rwa [Nat.zero_add] at this
      · cases hv
    · cases hv
  | .agg cs,u,y,h,hv=>by
    simp only [view] at hv
    split at hv
    · rename_i xs hx
      cases hv
      cases h with
      | agg _ vs h0 h1 h2 =>
        obtain ⟨q1,q2⟩:=viewL_sound (us:=fun i=>vs.getD i undef) h2 hx
        exact ofCells_rep (fun i hi=>h0 i (by omega)) (by omega) q2
    · cases hv
  | .fn f a b,u,y,h,hv=>by
    simp only [view] at hv
    split at hv
    · rename_i a' ha
      split at hv
      · rename_i b' hb
        cases hv
        cases h with
        | fn _ _ _ us vs h1 h2 h3 h4 =>
          obtain ⟨q1,q2⟩:=viewL_sound (us:=fun i=>us.getD i undef) h3 ha
          obtain ⟨r1,r2⟩:=viewL_sound (us:=fun i=>vs.getD i undef) h4 hb
          exact .fn f a' b' us vs (by omega) (by omega) q2 r2
      · cases hv
    · cases hv
  | .arr id off n,u,y,h,hv=>by
    simp only [view] at hv
    split at hv
    · rename_i r hr
      cases hv
      have ho:=rowAt_inv hr
      cases h with
      | arr _ _ _ u h0 ha hrow =>
        rcases hrow _ ho rfl with ⟨rfl,p,cap,rfl,hc⟩ | ⟨b,cap,rfl,hn,hc,hb⟩
        · rw [Nat.zero_mul,List.take_zero]
          exact .p _ _ (.sl 0 [] p cap (fun _=>undef) (Nat.zero_le _) hc (fun i h=>by simp at h) (fun i h=>by simp at h) (fun i h=>by simp at h))
        · rcases hM.row _ _ _ _ ho with ⟨hn',_⟩ | ⟨b',arr,inf,hb',q1,q2,q3,q4,q5,q6,q7,q8⟩
          · rw [hb] at hn';cases hn'
          · rw [hb] at hb';cases hb'
            have hle:r.2.2.length≤arr.size:=by rw [q3,q4];exact Nat.mul_le_mul_right _ q5
            have hlt:∀ i,i<((r.2.2.drop off).take (n*(r.2.2.length / r.2.1))).length→off+i<r.2.2.length:=fun i hi=>by simp at hi;omega
            refine .p _ _ (.sl n _ _ cap (fun j=>arr.getD (off+j) undef) hn hc (fun i hi=>⟨b,off,rfl,hO _ _ b ho rfl hb,cell_of_heap q1 (by have:=hlt i hi;omega)⟩) (fun i hi => ?_) (fun i hi=>q8 _ (hlt i hi)))
            simp only [List.getElem_take,List.getElem_drop]
            exact (q7 _ (hlt i hi)).mono hG (fun _ _=>rfl)
    · cases hv
  | .tup _,_,_,_,hv=>by simp [view] at hv
  | .mp _,_,_,_,hv=>by simp [view] at hv
  | .pa _ _,_,_,_,hv=>by simp [view] at hv
theorem viewL_sound:∀ {l:List AV} {us:Nat→Value} {ys:List AV},(∀ i (h:i<l.length),Rep C M w l[i] (us i))→viewL M l=some ys→ys.length=l.length∧∀ i (h:i<ys.length),Rep (C.bare G) [] w ys[i] (us i)
  | [],_,ys,_,hv=>by simp only [viewL] at hv;cases hv;exact ⟨rfl,fun i h=>by simp at h⟩
  | x::r,us,ys,h,hv=>by
    simp only [viewL] at hv
    split at hv
    · rename_i y h1
      split at hv
      · rename_i l h2
        cases hv
        obtain ⟨q1,q2⟩:=viewL_sound (us:=fun i=>us (i+1)) (fun i hi=>h (i+1) (by simpa using hi)) h2
        refine ⟨by simp [q1],fun i hi => ?_⟩
        cases i with
        | zero=>exact view_sound (h 0 (by simp)) h1
        | succ i=>exact q2 i (by simpa using hi)
      · cases hv
    · cases hv
end
end
end
section
variable {P:Program} {T:TT} {E:Env} {C C':Cx} {M M1:Mem} {w w':World}

def Cx.after(C:Cx)(w w':World)(kb:Option Nat):Cx:={ ι:=C.ι,κ:=C.κ,F:=fun b=>C.F b∨(w.heap.size≤b∧b<w'.heap.size∧kb≠some b) }

theorem fr_after(hM:MemOK P C M w){kb:Option Nat}(ho:w'.os=w.os)(ht:w'.tape=w.tape)(hu:w'.output=w.output)(hs:w.heap.size≤w'.heap.size)(hk:∀ b,b<w.heap.size→w'.heap[b]? = w.heap[b]?):Fr C M w (C.after w w' kb) M w'∧MemOK P (C.after w w' kb) M w':=by
  have hf:Fr C M w (C.after w w' kb) M w':=⟨ho,ht,hu,hs,fun b hb _=>hk b hb,fun _ x h=>⟨⟨x,h⟩,rfl,rfl⟩,fun _ _ _ _ _ cs h=>⟨cs,h⟩,fun _ o h o' h' hl=>by rw [h] at h';cases h';exact hl,
    fun i x _ h hl hb => .inr ⟨i,x,h,hl,hb⟩,fun _ h => .inl h,fun b h=>by rcases h with h | ⟨h,_⟩;exact .inl h;exact .inr (.inl h)⟩
  have hL:=hM.le hf
  refine ⟨hf,fun i ty' n cs hm => ?_,fun i ty' cs hm => ?_,fun i es cl hm => ?_,hM.inj,fun i x b hm hl hb => ?_,fun b hb => ?_,fun i x b hm hl hb=>Nat.lt_of_lt_of_le (hM.lt i x b hm hl hb) hs⟩
  · rcases hM.row _ _ _ _ hm with h4 | ⟨b,arr,inf,q0,q1,q2,q3,q4,q5,q6,q7,q8⟩
    · exact .inl h4
    · exact .inr ⟨b,arr,inf,q0,(hk b (hM.lt _ _ _ hm rfl q0)).trans q1,q2,q3,q4,q5,q6,fun j hj=>(q7 j hj).mono hL.F hL.fz,q8⟩
  · obtain ⟨b,arr,q0,q1,q2,q3,q4⟩:=hM.box _ _ _ hm
    exact ⟨b,arr,q0,(hk b (hM.lt _ _ _ hm rfl q0)).trans q1,q2,fun j hj=>(q3 j hj).mono hL,q4⟩
  · obtain ⟨b,arr,q0,q1,q2,q3⟩:=hM.mp _ _ _ hm
    refine ⟨b,arr,q0,(hk b (hM.lt _ _ _ hm rfl q0)).trans q1,q2,fun j hj => ?_⟩
    obtain ⟨en,r1,r2,r3,r4⟩:=q3 j hj
    exact ⟨en,r1,r2,r3,r4.mono hL.F hL.fz⟩
  · rintro (h | ⟨h,_⟩)
    · exact hM.nF i x b hm hl hb h
    · have:=hM.lt i x b hm hl hb
      omega
  · rcases hb with h | ⟨_,h,_⟩
    · exact Nat.lt_of_lt_of_le (hM.Fs b h) hs
    · exact h

theorem mem_take{C1:Cx}(hM:MemOK P C1 M w'){base b k ty n:Nat}{cs:List PV}(hf:Free M base)(hnF:¬ C1.F b)(hold:∀ (i:Nat) (x:AO) (j:Nat),M[i]? = some (some x)→x.live=true→C1.ι i=some j→j<b)(hb:b<w'.heap.size)
    (hrow:∃ arr i,w'.heap[b]? = some (.cells arr ty (0,0))∧P.info? ty=some i∧arr.size=k*i.size∧cs.length=n*i.size∧n≤k∧k≤maxLen∧(∀ j (h:j<cs.length),RepP C1.F w' cs[j] (arr.getD j undef))∧∀ j,j<cs.length→(arr.getD j undef).oneCell'=true) :
    MemOK P (C1.grow base b k) (setAt M base (some (.row ty n cs))) w'∧Le C1 (C1.grow base b k) M (setAt M base (some (.row ty n cs))) w' w':=by
  have hne:∀ (i:Nat) (x:AO),M[i]? = some (some x)→i≠base:=fun i x h e=>hf x (e ▸ h)
  have hL:Le C1 (C1.grow base b k) M (setAt M base (some (.row ty n cs))) w' w':=by
    refine ⟨fun i x h=>⟨x,(setAt_other M base i _ x (fun e=>hne i x h e.symm)).2 h⟩,fun i x h ty n cs hm=>⟨cs,(setAt_other M base i _ _ (fun e=>hne i x h e.symm)).1 hm⟩,fun i x h o' hm hl => ?_,fun _ h=>h,fun _ _=>rfl⟩
    have h4:=(setAt_other M base i _ _ (fun e=>hne i x h e.symm)).1 hm
    rw [h] at h4;cases h4
    exact ⟨hl,by simp [Cx.grow,hne i x h],by simp [Cx.grow,hne i x h]⟩
  have hold':∀ (i:Nat) (x:AO),i≠base→(setAt M base (some (.row ty n cs)))[i]? = some (some x)→M[i]? = some (some x):=fun i x h=>(setAt_other M base i _ x (fun e=>h e.symm)).1
  have hnew:∀ (x:AO),(setAt M base (some (.row ty n cs)))[base]? = some (some x)→x = .row ty n cs:=fun x h=>by rw [setAt_same] at h;cases h;rfl
  have hι:∀ i,i≠base→(C1.grow base b k).ι i=C1.ι i:=fun i h=>by simp [Cx.grow,h]
  have hκ:∀ i,i≠base→(C1.grow base b k).κ i=C1.κ i:=fun i h=>by simp [Cx.grow,h]
  have hιs:(C1.grow base b k).ι base=some b:=by simp [Cx.grow]
  have hκs:(C1.grow base b k).κ base=k:=by simp [Cx.grow]
  refine ⟨⟨fun i ty' n' cs' hm => ?_,fun i ty' cs' hm => ?_,fun i es cl hm => ?_,fun i i' o1 o2 j hm hl hm' hl' hb1 hb2 => ?_,fun i x j hm hl hj => ?_,fun j hj=>hM.Fs j hj,fun i x j hm hl hj => ?_⟩,hL⟩
  · by_cases e:i=base
    · subst e
      cases hnew _ hm
      obtain ⟨arr,inf,q0,q1,q2,q3,q4,q5,q6,q7⟩:=hrow
      exact .inr ⟨b,arr,inf,hιs,q0,q1,by rw [hκs];exact q2,q3,by rw [hκs];exact q4,by rw [hκs];exact q5,q6,q7⟩
    · rw [hι i e,hκ i e]
      rcases hM.row _ _ _ _ (hold' i _ e hm) with h4 | ⟨j,arr,inf,q0,q1,q2,q3,q4,q5,q6,q7,q8⟩
      · exact .inl h4
      · exact .inr ⟨j,arr,inf,q0,q1,q2,q3,q4,q5,q6,q7,q8⟩
  · by_cases e:i=base
    · subst e;cases hnew _ hm
    · rw [hι i e]
      obtain ⟨j,arr,q0,q1,q2,q3,q4⟩:=hM.box _ _ _ (hold' i _ e hm)
      exact ⟨j,arr,q0,q1,q2,fun j hj=>(q3 j hj).mono hL,q4⟩
  · by_cases e:i=base
    · subst e;cases hnew _ hm
    · rw [hι i e]
      obtain ⟨j,arr,q0,q1,q2,q3⟩:=hM.mp _ _ _ (hold' i _ e hm)
      refine ⟨j,arr,q0,q1,q2,fun j hj => ?_⟩
      obtain ⟨en,r1,r2,r3,r4⟩:=q3 j hj
      exact ⟨en,r1,r2,r3,r4.mono hL.F hL.fz⟩
  · by_cases e:i=base
    · by_cases e':i'=base
      · rw [e,e']
      · subst e
        rw [hιs] at hb1;cases hb1
        rw [hι i' e'] at hb2
        have:=hold i' _ _ (hold' i' _ e' hm') hl' hb2
        omega
    · by_cases e':i'=base
      · subst e'
        rw [hιs] at hb2;cases hb2
        rw [hι i e] at hb1
        have:=hold i _ _ (hold' i _ e hm) hl hb1
        omega
      · rw [hι i e] at hb1;rw [hι i' e'] at hb2
        exact hM.inj _ _ _ _ _ (hold' i _ e hm) hl (hold' i' _ e' hm') hl' hb1 hb2
  · by_cases e:i=base
    · subst e;rw [hιs] at hj;cases hj;exact hnF
    · rw [hι i e] at hj;exact hM.nF _ _ _ (hold' i _ e hm) hl hj
  · by_cases e:i=base
    · subst e;rw [hιs] at hj;cases hj;exact hb
    · rw [hι i e] at hj;exact hM.lt _ _ _ (hold' i _ e hm) hl hj
end
section
variable {P:Program} {T:TT} {E:Env} {C C':Cx} {M M1:Mem} {w w':World}

def findOwn:List AV→Option Nat
  | []=>none
  | .own id::_=>some id
  | _::r=>findOwn r
def keptOf:AV→Option Nat
  | .own id=>some id
  | .tup l=>findOwn l
  | _=>none
def outX(m:Mem)(base k:Nat)(x:AV):Option AV:=match x with
  | .own id=>match Nat.beq id k with
    | true=>some (.own base)
    | false=>view m (.own id)
  | x=>view m x
def outXL(m:Mem)(base k:Nat):List AV→Option (List AV)
  | []=>some []
  | x::r=>match outX m base k x with
    | some y=>match outXL m base k r with
      | some l=>some (y::l)
      | none=>none
    | none=>none
def outK(m:Mem)(base k:Nat):AV→Option AV
  | .tup l=>match outXL m base k l with
    | some ys=>some (.tup ys)
    | none=>none
  | x=>outX m base k x
def outP(m:Mem)(base:Nat)(r:AV):Option (AV × Upd):=match keptOf r with
  | some k=>match rowAt m k with
    | some q=>match outK (upds m [(k,.dead)]) base k r with
      | some y=>some (y,[(base,.row q.1 q.2.1 q.2.2)])
      | none=>none
    | none=>none
  | none=>match outK m base m.length r with
    | some y=>some (y,[])
    | none=>none

def rigC:AV→Bool
  | .own _=>true
  | x=>rig x
def rigCL:List AV→Bool
  | []=>true
  | x::r=>match rigC x with
    | true=>rigCL r
    | false=>false
def rigA:AV→Bool
  | .tup l=>rigCL l
  | x=>rigC x
def rigU:Upd→Bool
  | []=>true
  | (_,.row _ _ cs)::r=>match rigPs cs with
    | true=>rigU r
    | false=>false
  | _=>false
theorem rigCL_at:∀ {l:List AV},rigCL l=true→∀ i (h:i<l.length),rigC l[i]=true
  | [],_,i,h=>by simp at h
  | x::r,hr,i,h=>by
    unfold rigCL at hr
    split at hr
    · cases i with
      | zero=>assumption
      | succ i=>exact rigCL_at hr i (by simpa using h)
    · cases hr

theorem ofCells_tup{cs l:List AV}(h:ofCells cs = .tup l):False:=by
  unfold ofCells at h;split at h <;> cases h
theorem view_tup{m:Mem}{x:AV}{l:List AV}(h:view m x=some (.tup l)):False:=by
  cases x with
  | agg cs =>
    simp only [view] at h
    split at h
    · injection h with h;exact ofCells_tup h
    · cases h
  | fn f a b =>
    simp only [view] at h
    split at h
    · split at h <;> cases h
    · cases h
  | ptr id off =>
    simp only [view] at h
    split at h
    · cases h
    · split at h <;> cases h
    · cases h
  | own id=>simp only [view] at h;split at h <;> cases h
  | arr id off n=>simp only [view] at h;split at h <;> cases h
  | _=>simp [view] at h

theorem outX_sound{C2:Cx}{M2:Mem}{m:Mem}{Ck:Cx}{base k:Nat}{A:Prop}(hM:MemOK P Ck m w')
    (hA:A→(∀ b,Ck.F b→C2.F b)∧∀ (id:Nat) (o:AO) (b:Nat),m[id]? = some (some o)→o.live=true→Ck.ι id=some b→C2.F b)
    (hk:∀ u,Rep C' M1 w' (.own k) u→Rep C2 M2 w' (.own base) u) (hL:Le C' Ck M1 m w' w') {x y:AV} {u:Value} (h:Rep C' M1 w' x u) (hx:outX m base k x=some y) (hr:A∨rigC y=true):Rep C2 M2 w' y u:=by
  have sv:∀ {x y:AV} {u:Value},Rep C' M1 w' x u→view m x=some y→(A∨rigC y=true)→Rep C2 M2 w' y u:=fun {x y u} h hv hr=>by
    rcases hr with hr | hr
    · obtain ⟨h1,h2⟩:=hA hr
      have:=view_sound hM h1 h2 (h.mono hL) hv
      have hle:Le (Ck.bare C2.F) C2 [] M2 w' w':=⟨fun _ _ h=>by simp at h,fun _ _ h=>by simp at h,fun _ _ h=>by simp at h,fun _ h=>h,fun _ _=>rfl⟩
      exact this.mono hle
    · have:=view_sound (G:=fun b=>Ck.F b∨∃ (id:Nat) (o:AO),m[id]? = some (some o)∧o.live=true∧Ck.ι id=some b) hM (fun _ h => .inl h) (fun id o b h1 h2 h3 => .inr ⟨id,o,h1,h2,h3⟩) (h.mono hL) hv
      cases y with
      | own id=>cases this with | own _ _ _ ha _=>obtain ⟨o,ho⟩:=ha;simp at ho
      | _=>exact this.rig hr
  unfold outX at hx
  split at hx
  · rename_i id
    split at hx
    · rename_i hb
      cases hx
      have:=Nat.eq_of_beq_eq_true hb
      subst this
      exact hk u h
    · exact sv h hx hr
  · exact sv h hx hr

theorem outXL_sound{C2:Cx}{M2:Mem}{m:Mem}{Ck:Cx}{base k:Nat}{A:Prop}(hM:MemOK P Ck m w')
    (hA:A→(∀ b,Ck.F b→C2.F b)∧∀ (id:Nat) (o:AO) (b:Nat),m[id]? = some (some o)→o.live=true→Ck.ι id=some b→C2.F b)
    (hk:∀ u,Rep C' M1 w' (.own k) u→Rep C2 M2 w' (.own base) u) (hL:Le C' Ck M1 m w' w'):∀ {l ys:List AV} {us:Nat→Value},(∀ i (h:i<l.length),Rep C' M1 w' l[i] (us i))→outXL m base k l=some ys→(A∨rigCL ys=true) →
      ys.length=l.length∧∀ i (h:i<ys.length),Rep C2 M2 w' ys[i] (us i)
  | [],ys,us,_,hx,_=>by cases hx;exact ⟨rfl,fun i h=>by simp at h⟩
  | x::r,ys,us,h,hx,hr=>by
    unfold outXL at hx
    split at hx
    · rename_i y h1
      split at hx
      · rename_i l h2
        cases hx
        have hr1:A∨rigC y=true:=hr.imp id fun hr=>rigCL_at (l:=y::l) hr 0 (by simp)
        have hr2:A∨rigCL l=true:=hr.imp id fun hr=>by
          unfold rigCL at hr
          split at hr
          · exact hr
          · cases hr
        obtain ⟨q1,q2⟩:=outXL_sound hM hA hk hL (us:=fun i=>us (i+1)) (fun i hi=>h (i+1) (by simpa using hi)) h2 hr2
        refine ⟨by simp [q1],fun i hi => ?_⟩
        cases i with
        | zero=>exact outX_sound hM hA hk hL (h 0 (by simp)) h1 hr1
        | succ i=>exact q2 i (by simpa using hi)
      · cases hx
    · cases hx

theorem outK_sound{C2:Cx}{M2:Mem}{m:Mem}{Ck:Cx}{base k:Nat}{A:Prop}(hM:MemOK P Ck m w')
    (hA:A→(∀ b,Ck.F b→C2.F b)∧∀ (id:Nat) (o:AO) (b:Nat),m[id]? = some (some o)→o.live=true→Ck.ι id=some b→C2.F b)
    (hk:∀ u,Rep C' M1 w' (.own k) u→Rep C2 M2 w' (.own base) u) (hL:Le C' Ck M1 m w' w') {x y:AV} {u:Value} (h:Rep C' M1 w' x u) (hx:outK m base k x=some y) (hr:A∨rigA y=true):Rep C2 M2 w' y u:=by
  unfold outK at hx
  split at hx
  · rename_i l
    split at hx
    · rename_i ys hy
      cases hx
      cases h with
      | tup _ vs h1 h2 =>
        obtain ⟨q1,q2⟩:=outXL_sound hM hA hk hL (us:=fun i=>vs.getD i undef) h2 hy hr
        exact .tup _ _ (by omega) q2
    · cases hx
  · rename_i hn
    refine outX_sound hM hA hk hL h hx (hr.imp id fun hr => ?_)
    unfold rigA at hr
    split at hr
    · exfalso
      unfold outX at hx
      split at hx
      · split at hx
        · cases hx
        · exact view_tup hx
      · exact view_tup hx
    · exact hr

theorem call_lift{f:Nat}{args args':List AV}{r y:AV}{L:Upd}{base:Nat}(hm:noRefL args=true∧args'=args∨viewL M args=some args'∧rigA y=true∧rigU L=true)(hb:freeB M base=true)
    (ho:outP M1 base r=some (y,L)) (h:FMM P f args' [] r M1):FM P f args M y L:=by
  intro C w us hus hM n
  obtain ⟨G,hG,hGs,hA,hus'⟩:∃ G:Nat→Prop,(∀ b,C.F b→G b)∧(∀ b,G b→b<w.heap.size)∧((∀ b,G b→C.F b)∨rigA y=true∧rigU L=true)∧RepL (C.bare G) [] w args' us:=by
    rcases hm with ⟨hn,rfl⟩ | ⟨hv,hr1,hr2⟩
    · refine ⟨C.F,fun _ h=>h,hM.Fs,.inl fun _ h=>h,?_⟩
      have:∀ {l:List AV} {us:List Value},noRefL l=true→RepL C M w l us→RepL (C.bare C.F) [] w l us:=by
        intro l
        induction l with
        | nil=>intro us _ h;cases h;exact .nil
        | cons x l ih =>
          intro us hn h
          cases h with
          | cons _ u _ k hx hr =>
            have h0:=noRefL_at hn 0 (by simp)
            unfold noRefL at hn
            split at hn
            · exact .cons _ _ _ _ (hx.noRef h0 (fun _ h=>h) (fun _ _=>rfl)) (ih hn hr)
            · cases hn
      exact this hn hus
    · refine ⟨fun b=>C.F b∨∃ (id:Nat) (o:AO),M[id]? = some (some o)∧o.live=true∧C.ι id=some b,fun _ h => .inl h,fun b h => ?_,.inr ⟨hr1,hr2⟩,?_⟩
      · rcases h with h | ⟨id,o,h1,h2,h3⟩
        · exact hM.Fs b h
        · exact hM.lt id o b h1 h2 h3
      · obtain ⟨q1,q2⟩:=viewL_sound (G:=fun b=>C.F b∨∃ (id:Nat) (o:AO),M[id]? = some (some o)∧o.live=true∧C.ι id=some b) hM (fun _ h => .inl h) (fun id o b h1 h2 h3 => .inr ⟨id,o,h1,h2,h3⟩) (us:=fun i=>us.getD i undef) (fun i hi=>hus.at i hi) hv
        have:=RepL.ofArr (l:=args') (us:=us.toArray) (by simp [hus.len,q1]) (fun i hi=>by rw [list_toArray_getD];exact q2 i hi)
        exact this
  have hM0:MemOK P (C.bare G) [] w:=⟨fun _ _ _ _ h=>by simp at h,fun _ _ _ h=>by simp at h,fun _ _ _ h=>by simp at h,fun _ _ _ _ _ h=>by simp at h,fun _ _ _ h=>by simp at h,hGs,fun _ _ _ h=>by simp at h⟩
  refine (h (C.bare G) w us hus' hM0 n).mono ?_
  rintro e w' ⟨u,rfl,C',hF,hM1,hr⟩
  refine ⟨u,rfl,?_⟩
  have hkeep:∀ b,b<w.heap.size→w'.heap[b]? = w.heap[b]? := fun b hb=>hF.keep b hb (fun id o h=>by simp at h)
  have hnew:∀ (id:Nat) (o:AO) (b:Nat),M1[id]? = some (some o)→o.live=true→C'.ι id=some b→w.heap.size≤b:=fun id o b h1 h2 h3=>by
    rcases hF.new id o b h1 h2 h3 with h4 | ⟨_,_,h4,_⟩
    · exact h4
    · simp at h4
  have hF2:∀ b,C'.F b→G b∨w.heap.size≤b:=fun b hb=>by
    rcases hF.F2 b hb with h4 | h4 | ⟨_,_,h4,_⟩
    · exact .inl h4
    · exact .inr h4
    · simp at h4
  have hfree:=freeB_inv hb
  unfold outP at ho
  split at ho
  · rename_i k hk
    split at ho
    · rename_i q hq
      split at ho
      · rename_i y' hy
        cases ho
        have hok:=rowAt_inv hq
        have hmk:=mem_kill hM1 (id:=k) false hok rfl
        have hlk:=hM1.le (fr_kill (C:=C') (w:=w') (id:=k) false hok rfl)
        obtain ⟨f1,m1⟩:=fr_after (C:=C) (M:=M) (w:=w) (w':=w') (kb:=C'.ι k) hM hF.os hF.tape hF.out hF.size hkeep
        have hAA:(∀ b,G b→C.F b)→(∀ b,(C'.close k false).F b→(C.after w w' (C'.ι k)).F b)∧∀ (id:Nat) (o:AO) (b:Nat),(upds M1 [(k,.dead)])[id]? = some (some o)→o.live=true→(C'.close k false).ι id=some b→(C.after w w' (C'.ι k)).F b:=by
          intro hGC
          refine ⟨fun b hb => ?_,fun id o b h1 h2 h3 => ?_⟩
          · have hb':C'.F b:=by rcases hb with hb | ⟨hb,_⟩;exact hb;cases hb
            rcases hF2 b hb' with h4 | h4
            · exact .inl (hGC b h4)
            · exact .inr ⟨h4,hM1.Fs b hb',fun e=>hM1.nF _ _ _ hok rfl e hb'⟩
          · simp only [upds] at h1
            have hne:k≠id:=fun e=>by subst e;rw [setAt_same] at h1;cases h1;cases h2
            have h1':=(setAt_other M1 k id _ _ hne).1 h1
            exact .inr ⟨hnew id o b h1' h2 h3,hM1.lt id o b h1' h2 h3,fun e=>hne (hM1.inj _ _ _ _ _ hok rfl h1' h2 e h3)⟩
        cases hkb:C'.ι k with
        | none =>
          rw [hkb] at hAA f1 m1
          obtain ⟨hz,hcs⟩:q.2.1=0∧q.2.2=[]:=by
            rcases hM1.row _ _ _ _ hok with ⟨_,hz,hcs⟩ | ⟨b,_,_,hb,_⟩
            · exact ⟨hz,hcs⟩
            · rw [hkb] at hb;cases hb
          rw [hz,hcs]
          have m2:=mem_none (ty:=q.1) m1 hfree
          have f2:=fr_none (ty:=q.1) (C:=C.after w w' none) (w:=w') hfree
          have hle:=m1.le f2
          refine ⟨_,f1.trans f2,m2,?_⟩
          refine outK_sound (C2:=(C.after w w' none).nil base) (M2:=upds M [(base,.row q.1 0 [])]) (A:=∀ b,G b→C.F b) hmk (fun h=>⟨fun b hb=>(hAA h).1 b hb,fun id o b h1 h2 h3=>(hAA h).2 id o b h1 h2 h3⟩) (fun v hv => ?_) hlk hr hy (hA.imp id (·.1))
          cases hv with
          | own _ _ h0 ha hrow =>
            rcases hrow _ _ _ hok with ⟨rfl,_,_⟩ | ⟨b,_,hb⟩
            · exact .own base _ rfl ⟨_,setAt_same ..⟩ (fun ty n cs h=>by simp only [upds] at h;rw [setAt_same] at h;cases h;exact .inl ⟨rfl,by simp [Cx.nil],rfl⟩)
            · rw [hkb] at hb;cases hb
        | some b =>
          rw [hkb] at hAA f1 m1
          rcases hM1.row _ _ _ _ hok with ⟨hn,_⟩ | ⟨b',arr,inf,hb',q1,q2,q3,q4,q5,q6,q7,q8⟩
          · rw [hkb] at hn;cases hn
          rw [hkb] at hb';cases hb'
          have hbn:=hnew k _ b hok rfl hkb
          have hbl:=hM1.lt k _ b hok rfl hkb
          have hcell:∀ j (h:j<q.2.2.length),RepP (C.after w w' (some b)).F w' q.2.2[j] (arr.getD j undef):=fun j hj=>by
            rcases hA with hGC | ⟨_,hr2⟩
            · exact (q7 j hj).mono (fun b hb=>(hAA hGC).1 b (.inl hb)) (fun _ _=>rfl)
            · simp only [rigU] at hr2
              split at hr2
              · rename_i hcs
                exact (q7 j hj).rig (rigPs_at hcs j hj)
              · cases hr2
          obtain ⟨m2,hl2⟩:=mem_take (base:=base) (b:=b) (k:=C'.κ k) (ty:=q.1) (n:=q.2.1) (cs:=q.2.2) m1 hfree (fun hF=>by
            rcases hF with hF | ⟨_,_,hF⟩
            · have:=hM.Fs b hF;omega
            · exact hF rfl) (fun i x j h1 h2 h3=>by have:=hM.lt i x j h1 h2 h3;omega) hbl ⟨arr,inf,q1,q2,q3,q4,q5,q6,hcell,q8⟩
          refine ⟨_,?_,m2,?_⟩
          · have hne:∀ (i:Nat) (x:AO),M[i]? = some (some x)→i≠base:=fun i x h e=>hfree x (e ▸ h)
            refine ⟨f1.os,f1.tape,f1.out,f1.size,f1.keep,fun i x h=>⟨hl2.ids i x h,by simp [Cx.grow,Cx.after,hne i x h],by simp [Cx.grow,Cx.after,hne i x h]⟩,hl2.row,fun i x h o' h1 h2=>(hl2.liv i x h o' h1 h2).1,fun i x j h1 h2 h3 => ?_,f1.F1,f1.F2⟩
            by_cases e:i=base
            · subst e
              simp only [Cx.grow,if_true] at h3
              cases h3
              exact .inl hbn
            · simp only [Cx.grow,e,if_false] at h3
              exact f1.new i x j ((setAt_other M base i _ _ (fun e'=>e e'.symm)).1 h1) h2 h3
          · refine outK_sound (C2:=(C.after w w' (some b)).grow base b (C'.κ k)) (M2:=upds M [(base,.row q.1 q.2.1 q.2.2)]) (A:=∀ b,G b→C.F b) hmk (fun h=>⟨fun b hb=>(hAA h).1 b hb,fun id o b h1 h2 h3=>(hAA h).2 id o b h1 h2 h3⟩) (fun v hv => ?_) hlk hr hy (hA.imp id (·.1))
            cases hv with
            | own _ _ h0 ha hrow =>
              rcases hrow _ _ _ hok with ⟨_,hn,_⟩ | ⟨b',rfl,hb⟩
              · rw [hkb] at hn;cases hn
              · rw [hkb] at hb;cases hb
                exact .own base _ rfl ⟨_,setAt_same ..⟩ (fun ty n cs h=>by simp only [upds] at h;rw [setAt_same] at h;cases h;exact .inr ⟨b,by simp [Cx.grow],by simp [Cx.grow]⟩)
      · cases ho
    · cases ho
  · rename_i hk
    split at ho
    · rename_i y' hy
      cases ho
      obtain ⟨f1,m1⟩:=fr_after (C:=C) (M:=M) (w:=w) (w':=w') (kb:=none) hM hF.os hF.tape hF.out hF.size hkeep
      refine ⟨_,f1,m1,?_⟩
      refine outK_sound (C2:=C.after w w' none) (M2:=upds M []) (A:=∀ b,G b→C.F b) hM1 (fun hGC=>⟨fun b hb => ?_,fun id o b h1 h2 h3 => .inr ⟨hnew id o b h1 h2 h3,hM1.lt id o b h1 h2 h3,nofun⟩⟩) (fun v hv => ?_) ⟨fun i o h=>⟨o,h⟩,fun _ _ _ _ _ cs h=>⟨cs,h⟩,fun _ o h o' h' hl=>by rw [h] at h';cases h';exact ⟨hl,rfl,rfl⟩,fun _ h=>h,fun _ _=>rfl⟩ hr hy (hA.imp id (·.1))
      · rcases hF2 b hb with h4 | h4
        · exact .inl (hGC b h4)
        · exact .inr ⟨h4,hM1.Fs b hb,nofun⟩
      · cases hv with
        | own _ _ h0 ha hrow =>
          obtain ⟨o,ho⟩:=ha
          rw [List.getElem?_eq_none (Nat.le_refl _)] at ho
          cases ho
    · cases ho
end
section
variable {P:Program} {T:TT} {E:Env} {C C':Cx} {M M1 M2:Mem} {w w':World}

def Eqv(M1 M2:Mem):Prop:=∀ (id:Nat) (o:AO),M1[id]? = some (some o)↔M2[id]? = some (some o)

theorem Eqv.le(h:Eqv M1 M2):Le C C M1 M2 w w :=
  ⟨fun id o ho=>⟨o,(h id o).1 ho⟩,fun id _ _ ty n cs hm=>⟨cs,(h id _).2 hm⟩,fun id o ho o' ho' hl=>by
    have:=(h id o').2 ho'
    rw [ho] at this;cases this
    exact ⟨hl,rfl,rfl⟩,fun _ h=>h,fun _ _=>rfl⟩
theorem Eqv.mem(h:Eqv M1 M2)(hM:MemOK P C M1 w):MemOK P C M2 w:=by
  have hL:Le C C M1 M2 w w:=h.le
  refine ⟨fun i ty' n cs hm => ?_,fun i ty' cs hm => ?_,fun i es cl hm => ?_,fun i i' o1 o2 b h1 h2 h3 h4=>hM.inj i i' o1 o2 b ((h _ _).2 h1) h2 ((h _ _).2 h3) h4,fun i x b h1=>hM.nF i x b ((h _ _).2 h1),hM.Fs,fun i x b h1=>hM.lt i x b ((h _ _).2 h1)⟩
  · rcases hM.row _ _ _ _ ((h _ _).2 hm) with h4 | ⟨b,arr,inf,q0,q1,q2,q3,q4,q5,q6,q7,q8⟩
    · exact .inl h4
    · exact .inr ⟨b,arr,inf,q0,q1,q2,q3,q4,q5,q6,q7,q8⟩
  · obtain ⟨b,arr,q0,q1,q2,q3,q4⟩:=hM.box _ _ _ ((h _ _).2 hm)
    exact ⟨b,arr,q0,q1,q2,fun j hj=>(q3 j hj).mono hL,q4⟩
  · obtain ⟨b,arr,q0,q1,q2,q3⟩:=hM.mp _ _ _ ((h _ _).2 hm)
    refine ⟨b,arr,q0,q1,q2,fun j hj => ?_⟩
    obtain ⟨en,r1,r2,r3,r4⟩:=q3 j hj
    exact ⟨en,r1,r2,r3,r4.mono hL.F hL.fz⟩
theorem Eqv.fr{C0:Cx}{M0:Mem}{w0:World}(h:Eqv M1 M2)(hF:Fr C0 M0 w0 C M1 w):Fr C0 M0 w0 C M2 w :=
  ⟨hF.os,hF.tape,hF.out,hF.size,hF.keep,fun i o ho=>by
    obtain ⟨⟨o',h1⟩,h2⟩:=hF.ids i o ho
    exact ⟨⟨o',(h _ _).1 h1⟩,h2⟩,fun i o ho ty n cs hm=>hF.row i o ho ty n cs ((h _ _).2 hm),fun i o ho o' hm=>hF.liv i o ho o' ((h _ _).2 hm),fun i o b hm=>hF.new i o b ((h _ _).2 hm),hF.F1,hF.F2⟩

def s0:AS:={ auto:=true,o:=[],obs:=[] }

end
section
variable {P:Program} {T:TT} {E:Env} {C C0:Cx} {M M0:Mem} {w w0:World}

def LoopOK(P:Program)(k:Nat)(b:Code)(st:St)(e:Ex)(st':St):Prop:=∀ (C0:Cx) (M0:Mem) (w0:World) (a:Act) (w:World),M0.length≤k→Sim P C0 M0 w0 st a w→∀ (ro:Option Nat),RoOK ro b→∀ (n:Nat),LoopIn (Fen ro) n P b (fun e' a' w'=>e'=e.toExit∧Sim P C0 M0 w0 st' a' w') a w

section
variable {k:Nat} {b:Code} {st st1 st':St} {e:Ex}
theorem LoopOK.step(h:CodeOK P k b st .normal st1)(hr:LoopOK P k b st1 e st'):LoopOK P k b st e st':=fun C0 M0 w0 a w hk hs ro hro n=>LoopIn.step (wpIn_mono (h C0 M0 w0 a w hk hs ro hro n) fun e' a' w' hq=>by
  obtain ⟨rfl,hs'⟩:=hq
  exact hr C0 M0 w0 a' w' hk hs' ro hro n)
theorem LoopOK.exit(h:CodeOK P k b st e st')(he:e ≠ .normal):LoopOK P k b st e st':=fun C0 M0 w0 a w hk hs ro hro n=>LoopIn.step (wpIn_mono (h C0 M0 w0 a w hk hs ro hro n) fun e' a' w' hq=>by
  obtain ⟨rfl,hs'⟩:=hq
  cases e with
  | normal=>exact absurd rfl he
  | ret=>exact ⟨rfl,hs'⟩
  | exit id=>exact ⟨rfl,hs'⟩)
theorem LoopOK.code(h:LoopOK P k b st e st'):CodeOK P k (.loop b) st e st':=fun C0 M0 w0 a w hk hs ro hro n=>LoopIn.wp (h C0 M0 w0 a w hk hs ro hro.loop n)
theorem LoopOK.pre{g:Gh}(hg:gh k g st=some st1)(h:LoopOK P k b st1 e st'):LoopOK P k b st e st':=fun C0 M0 w0 a w hk hs ro hro n=>h C0 M0 w0 a w hk (gh_sound hk hg hs) ro hro n

theorem LoopOK.range{α β:Type}(S:Nat→β→St)(R:β→St)(f:β→α→β)(Inv:Nat→β→Prop)(he:e ≠ .normal)(l:List α){a0:β}(h0:Inv 0 a0)
    (hs:∀ (i:Nat) (x:α) (acc:β),l[i]? = some x→Inv i acc→Inv (i+1) (f acc x)∧CodeOK P k b (S i acc) .normal (S (i+1) (f acc x)))
    (hx:∀ acc,Inv l.length acc→CodeOK P k b (S l.length acc) e (R acc)):LoopOK P k b (S 0 a0) e (R (l.foldl f a0)):=by
  have key:∀ (r:List α) (i:Nat) (acc:β),l.drop i=r→i≤l.length→Inv i acc→LoopOK P k b (S i acc) e (R (r.foldl f acc)):=by
    intro r
    induction r with
    | nil =>
      intro i acc hd hi hI
      have:i=l.length:=by have:=congrArg List.length hd;simp at this;omega
      subst this
      exact .exit (hx _ hI) he
    | cons x r ih =>
      intro i acc hd hi hI
      have hl:l[i]? = some x:=by
        have:=congrArg (·[0]?) hd
        simpa using this
      obtain ⟨h1,h2⟩:=hs i x acc hl hI
      have hlt:i<l.length:=(List.getElem?_eq_some_iff.1 hl).1
      refine .step h2 (ih (i+1) _ ?_ (by omega) h1)
      have:=congrArg List.tail hd
      simpa [List.tail_drop] using this
  exact key l 0 a0 (by simp) (Nat.zero_le _) h0

end

def FV(P:Program)(f:Nat)(args:List AV)(base:Nat)(y:AV)(L:Upd):Prop:=∃ r M1,FMM P f args [] r M1∧outP M1 base r=some (y,L)

theorem FV.fc{f base:Nat}{args:List AV}{y:AV}{L:Upd}{bs:List (Nat × AO)}(h:FV P f args base y L)(hn:noRefL args=true):FC P f args bs base y L:=fun M _ hb=>by
  obtain ⟨r,M1,h1,h2⟩:=h
  exact call_lift (.inl ⟨hn,rfl⟩) hb h2 h1

def SubM(m M:Mem):Prop:=∀ (id:Nat) (o:AO),objAt m id=some o→objAt M id=some o
section
variable {m:Mem}
theorem sub_row(hs:SubM m M){id:Nat}{r:Nat × Nat × List PV}(h:rowAt m id=some r):rowAt M id=some r:=by
  have:=objAt_iff.2 (rowAt_inv h)
  unfold rowAt
  rw [hs _ _ this]
theorem sub_view1(hs:SubM m M){x:AV}{y:PV}(h:view1 m x=some y):view1 M x=some y:=by
  unfold view1 at h ⊢
  split at h
  · exact h
  · exact h
  · split at h
    · rename_i hr
      rw [sub_row hs hr];exact h
    · cases h
  · cases h
theorem sub_viewC(hs:SubM m M):∀ {l:List AV} {ys:List PV},viewC m l=some ys→viewC M l=some ys
  | [],_,h=>h
  | x::r,ys,h=>by
    unfold viewC at h ⊢
    split at h
    · rename_i h1
      split at h
      · rename_i h2
        rw [sub_view1 hs h1,sub_viewC hs h2];exact h
      · cases h
    · cases h
mutual
theorem sub_view(hs:SubM m M):∀ {x y:AV},view m x=some y→view M x=some y
  | .p x,y,h=>by simp only [view] at h ⊢;exact h
  | .kb b,y,h=>by simp only [view] at h ⊢;exact h
  | .any,y,h=>by simp only [view] at h ⊢;exact h
  | .yld l,y,h=>by simp only [view] at h ⊢;exact h
  | .rp cs o,y,h=>by simp only [view] at h ⊢;exact h
  | .own id,y,h=>by
    simp only [view] at h ⊢
    split at h
    · rename_i hr
      rw [sub_row hs hr];exact h
    · cases h
  | .arr id off n,y,h=>by
    simp only [view] at h ⊢
    split at h
    · rename_i hr
      rw [sub_row hs hr];exact h
    · cases h
  | .ptr id off,y,h=>by
    simp only [view] at h ⊢
    split at h
    · rename_i hr
      rw [hs _ _ hr];exact h
    · rename_i hr
      rw [hs _ _ hr]
      split at h
      · rename_i hc
        simp only [sub_viewC hs hc];exact h
      · cases h
    · cases h
  | .agg l,y,h=>by
    simp only [view] at h ⊢
    split at h
    · rename_i hr
      rw [sub_viewL hs hr];exact h
    · cases h
  | .fn f a b,y,h=>by
    simp only [view] at h ⊢
    split at h
    · rename_i ha
      split at h
      · rename_i hb
        rw [sub_viewL hs ha,sub_viewL hs hb];exact h
      · cases h
    · cases h
  | .tup l,y,h=>by simp [view] at h
  | .mp i,y,h=>by simp [view] at h
theorem sub_viewL(hs:SubM m M):∀ {l ys:List AV},viewL m l=some ys→viewL M l=some ys
  | [],_,h=>by simp only [viewL] at h ⊢;exact h
  | x::r,ys,h=>by
    simp only [viewL] at h ⊢
    split at h
    · rename_i h1
      split at h
      · rename_i h2
        rw [sub_view hs h1,sub_viewL hs h2];exact h
      · cases h
    · cases h
end
end
theorem upds_mem:∀ (bs:Upd) (m:Mem) (id:Nat) (o:AO),objAt (upds m bs) id=some o→(id,o)∈bs∨objAt m id=some o
  | [],_,_,_,h => .inr h
  | (i,x)::r,m,id,o,h=>by
    rcases upds_mem r _ id o h with h1 | h1
    · exact .inl (List.mem_cons_of_mem _ h1)
    · rw [objAt_setAt] at h1
      split at h1
      · rename_i e
        subst e
        cases h1
        exact .inl (List.mem_cons_self ..)
      · exact .inr h1
theorem FV.view{f base:Nat}{args args':List AV}{y:AV}{L:Upd}{bs:List (Nat × AO)}(h:FV P f args' base y L)(hv:viewL (upds [] bs) args=some args')(h1:rigA y=true)(h2:rigU L=true):FC P f args bs base y L:=fun M hb hf=>by
  obtain ⟨r,M1,h3,h4⟩:=h
  refine call_lift (.inr ⟨sub_viewL (fun id o ho => ?_) hv,h1,h2⟩) hf h4 h3
  rcases upds_mem bs [] id o ho with h5 | h5
  · exact hb _ h5
  · simp [objAt] at h5
end
section

inductive Tr (α:Type) where
  | nil
  | node (v:Option α) (l r:Tr α)
def Tr.get{α:Type}:Tr α→Nat→Option α
  | .nil,_=>none
  | .node v l r,k=>match Nat.beq k 0 with
    | true=>v
    | false=>match Nat.beq (Nat.mod k 2) 1 with
      | true=>l.get (Nat.div k 2)
      | false=>r.get (Nat.sub (Nat.div k 2) 1)
def Tr.all{α:Type}(f:Nat→Nat):Tr α→List (Nat × α)
  | .nil=>[]
  | .node v l r=>(match v with | some x=>[(f 0,x)] | none=>[])++l.all (fun k=>f (2*k+1))++r.all (fun k=>f (2*k+2))
theorem Tr.get_all{α:Type}:∀ (t:Tr α) (f:Nat→Nat) (k:Nat) (x:α),t.get k=some x→(f k,x)∈t.all f
  | .nil,_,_,_,h=>by cases h
  | .node v l r,f,k,x,h=>by
    unfold Tr.get at h
    unfold Tr.all
    split at h
    · rename_i hb
      have hk:=Nat.eq_of_beq_eq_true hb
      subst hk
      subst h
      exact List.mem_append_left _ (List.mem_append_left _ (List.mem_cons_self ..))
    · rename_i hb
      have hk:=Nat.ne_of_beq_eq_false hb
      split at h
      · rename_i h1
        have h1:k % 2=1:=Nat.eq_of_beq_eq_true h1
        have:=Tr.get_all l (fun k=>f (2*k+1)) _ x h
        refine List.mem_append_left _ (List.mem_append_right _ ?_)
        have e:2*(k / 2)+1=k:=by omega
        have e':2*Nat.div k 2+1=k:=e
        simp only [e'] at this
        exact this
      · rename_i h1
        have h1:k % 2≠1:=Nat.ne_of_beq_eq_false h1
        have:=Tr.get_all r (fun k=>f (2*k+2)) _ x h
        refine List.mem_append_right _ ?_
        have e:2*(k / 2-1)+2=k:=by omega
        have e':2*Nat.sub (Nat.div k 2) 1+2=k:=e
        simp only [e'] at this
        exact this

abbrev tq0:Option TI:=some ⟨.func,1,8,[.nilFunc],true⟩
abbrev tq1:Option TI:=some ⟨.struct [(0,3,true),(1,3,true),(2,3,true),(3,3,true)],4,32,[.int .i64 0,.int .i64 0,.int .i64 0,.int .i64 0],true⟩
abbrev tq2:Option TI:=some ⟨.int .i64,1,8,[.int .i64 0],true⟩
abbrev tq3:Option TI:=some ⟨.int .u64,1,8,[.int .u64 0],true⟩
abbrev tq4:Option TI:=some ⟨.str,1,16,[.string { data := #[] }],true⟩
abbrev tq5:Option TI:=some ⟨.struct [(0,3,true),(1,3,true),(2,3,true),(3,22,true),(4,23,true)],5,72,[.int .i64 0,.int .i64 0,.int .i64 0,.slice none 0 0,.slice none 0 0],true⟩
abbrev tq6:Option TI:=some ⟨.struct [(0,2,true),(1,3,true),(2,4,true),(3,6,true)],4,24,[.int .i64 0,.int .i64 0,.bool false,.int .u8 0],true⟩
abbrev tq7:Option TI:=some ⟨.struct [(0,142,true)],1,8,[.nilFunc],true⟩
abbrev tq8:Option TI:=some ⟨.struct [(0,3,true),(1,134,true)],62,496,.int .i64 0::List.replicate 61 (.int .i64 0),true⟩
abbrev tq9:Option TI:=some ⟨.struct [(0,25,true)],5,72,[.int .i64 0,.int .i64 0,.int .i64 0,.slice none 0 0,.slice none 0 0],true⟩
abbrev tq10:Option TI:=some ⟨.struct [(0,17,true)],1,8,[.pointer none],false⟩
abbrev tq11:Option TI:=some ⟨.struct [(0,44,true),(1,3,true),(2,130,true)],3,40,[.slice none 0 0,.int .i64 0,.int .u32 0],true⟩
abbrev tq12:Option TI:=some ⟨.struct [(0,3,true),(1,3,true)],2,16,[.int .i64 0,.int .i64 0],true⟩
def tTr:Tr TI := .node none (.node tq0 (.node tq2 (.node tq6 (.node (some ⟨.ptr 215,1,8,[.pointer none],true⟩) (.node tq2 (.node tq0 (.node tq0 .nil .nil) (.node tq0 .nil .nil)) (.node tq0 (.node tq0 .nil .nil) .nil)) (.node tq0 (.node tq0 (.node tq7 .nil .nil) (.node tq0 .nil .nil)) (.node tq0 (.node tq0 .nil .nil) .nil))) (.node (some ⟨.slice 22,1,24,[.slice none 0 0],true⟩) (.node tq1 (.node none (.node tq8 .nil .nil) (.node tq0 .nil .nil)) (.node tq0 (.node tq0 .nil .nil) .nil)) (.node tq0 (.node none (.node tq0 .nil .nil) .nil) (.node tq9 (.node tq0 .nil .nil) .nil)))) (.node tq4 (.node tq10 (.node none (.node tq0 (.node tq11 .nil .nil) (.node tq0 .nil .nil)) (.node tq0 (.node tq0 .nil .nil) .nil)) (.node tq0 (.node tq0 (.node tq0 .nil .nil) (.node tq0 .nil .nil)) (.node tq0 (.node tq0 .nil .nil) .nil))) (.node tq0 (.node tq0 (.node tq0 (.node tq0 .nil .nil) (.node tq0 .nil .nil)) (.node tq0 (.node tq0 .nil .nil) .nil)) (.node (some ⟨.map 3 4,1,8,[.map none],true⟩) (.node tq0 (.node tq12 .nil .nil) (.node tq0 .nil .nil)) (.node tq0 (.node tq0 .nil .nil) .nil))))) (.node (some ⟨.int .u8,1,1,[.int .u8 0],true⟩) (.node tq4 (.node (some ⟨.ptr 227,1,8,[.pointer none],true⟩) (.node tq0 (.node tq0 (.node tq0 .nil .nil) (.node tq0 .nil .nil)) (.node tq0 (.node tq0 .nil .nil) .nil)) (.node tq0 (.node tq0 (.node tq0 .nil .nil) (.node (some ⟨.ptr 200,1,8,[.pointer none],true⟩) .nil .nil)) (.node none (.node tq0 .nil .nil) .nil))) (.node tq5 (.node tq0 (.node none (.node tq0 .nil .nil) (.node tq0 .nil .nil)) (.node none (.node tq3 .nil .nil) .nil)) (.node none (.node none (.node tq0 .nil .nil) (.node (some ⟨.struct [(0,216,false)],0,0,[],false⟩) .nil .nil)) (.node none (.node tq0 .nil .nil) .nil)))) (.node none (.node (some ⟨.int .i32,1,4,[.int .i32 0],true⟩) (.node tq5 (.node tq0 (.node tq0 .nil .nil) (.node tq0 .nil .nil)) (.node tq0 .nil .nil)) (.node tq0 (.node tq0 (.node tq0 .nil .nil) (.node tq0 .nil .nil)) (.node (some ⟨.slice 116,1,24,[.slice none 0 0],true⟩) .nil .nil))) (.node tq0 (.node tq0 (.node tq0 (.node tq0 .nil .nil) (.node tq0 .nil .nil)) (.node tq0 (.node tq0 .nil .nil) .nil)) (.node tq1 (.node tq0 (.node tq0 .nil .nil) .nil) (.node tq0 (.node tq0 .nil .nil) .nil)))))) (.node tq2 (.node (some ⟨.bool,1,1,[.bool false],true⟩) (.node tq6 (.node (some ⟨.ptr 218,1,8,[.pointer none],true⟩) (.node none (.node tq0 (.node tq0 .nil .nil) (.node tq0 .nil .nil)) (.node tq0 (.node tq0 .nil .nil) .nil)) (.node tq0 (.node tq0 (.node tq7 .nil .nil) (.node tq0 .nil .nil)) (.node tq0 (.node tq0 .nil .nil) .nil))) (.node tq5 (.node tq1 (.node tq0 (.node tq8 .nil .nil) (.node tq3 .nil .nil)) (.node tq0 (.node tq0 .nil .nil) .nil)) (.node (some ⟨.slice 61,1,24,[.slice none 0 0],true⟩) (.node tq0 (.node (some ⟨.slice 155,1,24,[.slice none 0 0],true⟩) .nil .nil) (.node (some ⟨.array 0 16,0,0,[],true⟩) .nil .nil)) (.node tq9 (.node tq0 .nil .nil) .nil)))) (.node tq3 (.node none (.node tq0 (.node tq0 (.node tq11 .nil .nil) (.node tq0 .nil .nil)) (.node tq0 (.node tq0 .nil .nil) .nil)) (.node tq0 (.node tq0 (.node tq0 .nil .nil) (.node tq0 .nil .nil)) (.node (some ⟨.ptr 3,1,8,[.pointer none],true⟩) (.node tq2 .nil .nil) .nil))) (.node tq0 (.node (some ⟨.slice 5,1,24,[.slice none 0 0],true⟩) (.node (some ⟨.slice 78,1,24,[.slice none 0 0],true⟩) (.node tq0 .nil .nil) (.node tq0 .nil .nil)) (.node tq0 (.node tq0 .nil .nil) .nil)) (.node tq1 (.node tq0 (.node tq0 .nil .nil) .nil) (.node (some ⟨.map 3 22,1,8,[.map none],true⟩) (.node tq3 .nil .nil) .nil))))) (.node (some ⟨.int .u8,1,1,[.int .u8 0],true⟩) (.node tq4 (.node tq10 (.node (some ⟨.slice 39,1,24,[.slice none 0 0],true⟩) (.node tq0 (.node (some ⟨.int .u32,1,4,[.int .u32 0],true⟩) .nil .nil) (.node tq0 .nil .nil)) (.node tq0 (.node tq0 .nil .nil) .nil)) (.node none (.node tq0 (.node tq0 .nil .nil) .nil) (.node tq0 (.node tq0 .nil .nil) .nil))) (.node tq0 (.node tq0 (.node tq0 (.node tq0 .nil .nil) (.node tq0 .nil .nil)) (.node tq0 (.node tq0 .nil .nil) .nil)) (.node tq0 (.node tq0 (.node tq12 .nil .nil) (.node (some ⟨.struct [(0,216,false)],0,0,[],false⟩) .nil .nil)) (.node tq0 (.node tq0 .nil .nil) .nil)))) (.node none (.node (some ⟨.slice 3,1,24,[.slice none 0 0],true⟩) (.node tq1 (.node tq0 (.node (some ⟨.array 61 3,61,488,.int .i64 0::List.replicate 60 (.int .i64 0),true⟩) .nil .nil) (.node tq0 .nil .nil)) (.node none (.node tq0 .nil .nil) .nil)) (.node tq0 (.node tq0 (.node tq0 .nil .nil) .nil) (.node tq0 (.node tq0 .nil .nil) .nil))) (.node (some ⟨.slice 40,1,24,[.slice none 0 0],true⟩) (.node (some ⟨.ptr 132,1,8,[.pointer none],true⟩) (.node tq1 (.node tq0 .nil .nil) (.node tq0 .nil .nil)) (.node tq0 (.node tq0 .nil .nil) .nil)) (.node none (.node tq0 (.node tq0 .nil .nil) .nil) (.node tq0 (.node tq0 .nil .nil) .nil))))))
def tT:TT:=tTr.get

set_option maxRecDepth 100000 in
theorem tT_all:(tTr.all id).map (fun p=>tiOf Tryz.prog p.1)=(tTr.all id).map fun p=>some p.2:=by kernel_rfl
theorem tT_ok:∀ t i,tT t=some i→tiOf Tryz.prog t=some i:=fun t i h=>by
  have h1:=Tr.get_all tTr id t i h
  obtain ⟨j,hj,hx⟩:=List.getElem_of_mem h1
  have h2:=congrArg (fun l=>l[j]?) tT_all
  simp only [List.getElem?_map,List.getElem?_eq_getElem hj,hx,Option.map_some,id,Option.some.injEq] at h2
  exact h2

def okF(P:Program)(f:Nat):Bool:=match P.funcs[f]? with
  | some fn => !(fn.name == "runtime.NumGoroutine") && fn.body.isSome
  | none=>false
theorem okF_run{P:Program}{f:Nat}(h:okF P f=true)(args:Array Value)(w:World):(callFunc f args).run P w = .ok (.enter f args) w:=by
  unfold okF at h
  split at h
  · rename_i fn hf
    simp only [Bool.and_eq_true,Bool.not_eq_true'] at h
    have hn : ¬ fn.name = "runtime.NumGoroutine" := by simpa using h.1
    have hb:¬ fn.body=none:=fun e=>by rw [e] at h;cases h.2
    unfold callFunc
    simp [hf,hn,hb]
  · cases h
def ok(f:Nat):Bool:=match Nat.ble 2 f with
  | true=>Nat.ble f 209
  | false=>false
set_option maxRecDepth 100000 in
theorem ok_all:((List.range 210).drop 2).all (okF Tryz.prog)=true:=by kernel_rfl
theorem ok_run:∀ f,ok f=true→∀ args w,(callFunc f args).run Tryz.prog w = .ok (.enter f args) w:=fun f h=>by
  unfold ok at h
  split at h
  · rename_i h2
    have h2:=Nat.le_of_ble_eq_true h2
    have h3:=Nat.le_of_ble_eq_true h
    have:=ok_all
    rw [List.all_eq_true] at this
    refine okF_run (this f ?_)
    rw [List.mem_iff_getElem]
    exact ⟨f-2,by simp;omega,by simp;omega⟩
  · cases h
theorem mixed:Tryz.prog.follows .mixedOrders=true:=by kernel_rfl
end
section
variable {P:Program} {T:TT} {E:Env} {C C0:Cx} {M M0 M1:Mem} {w w0:World}

def bkI(ids:List Nat)(base j:Nat):Option Nat:=match ids[j]? with
  | some i=>some i
  | none=>match Nat.beq j ids.length with
    | true=>some base
    | false=>none
def outU(ids:List Nat)(base:Nat):List Nat→Mem→Option Upd
  | i::r,some o::m=>match mpO (bkI ids base) o with
    | some o'=>(outU ids base r m).map ((i,o') :: ·)
    | none=>none
  | [],[]=>some []
  | [],[some o]=>match mpO (bkI ids base) o with
    | some o'=>some [(base,o')]
    | none=>none
  | _,_=>none

theorem outU_spec{ids0:List Nat}{base:Nat}:∀ {ids:List Nat} {m:Mem} {L:Upd},outU ids0 base ids m=some L→ids.Nodup→base∉ids →
    (m.length=ids.length∨m.length=ids.length+1) ∧
    ∀ (N:Mem),(∀ (p i:Nat) (o':AO),ids[p]? = some i→(objAt (upds N L) i=some o'↔∃ o,m[p]? = some (some o)∧mpO (bkI ids0 base) o=some o')) ∧
      (m.length=ids.length+1→∀ (o':AO),(objAt (upds N L) base=some o'↔∃ o,m[ids.length]? = some (some o)∧mpO (bkI ids0 base) o=some o')) ∧
      (m.length=ids.length→objAt (upds N L) base=objAt N base) ∧
      ∀ j,j∉ids→j≠base→objAt (upds N L) j=objAt N j
  | [],[],L,h,_,_=>by
    unfold outU at h;cases h
    refine ⟨.inl rfl,fun N=>⟨fun p i o' hp=>by simp at hp,fun h=>by simp at h,fun _=>rfl,fun _ _ _=>rfl⟩⟩
  | [],[some o],L,h,_,_=>by
    unfold outU at h
    split at h
    · rename_i o' ho
      cases h
      refine ⟨.inr rfl,fun N=>⟨fun p i o' hp=>by simp at hp,fun _ o2 => ?_,fun h=>by simp at h,fun j _ hj => ?_⟩⟩
      · simp only [upds]
        rw [objAt_setAt,if_pos rfl]
        constructor
        · intro h;cases h;exact ⟨o,rfl,ho⟩
        · rintro ⟨o3,h3,h4⟩
          simp at h3;subst h3
          rw [ho] at h4;exact h4
      · simp only [upds]
        rw [objAt_setAt,if_neg (Ne.symm hj)]
    · cases h
  | i::r,some o::m,L,h,hd,hb=>by
    unfold outU at h
    split at h
    · rename_i o' ho
      simp only [Option.map_eq_some_iff] at h
      obtain ⟨L',hL',rfl⟩:=h
      obtain ⟨hd1,hd2⟩:=List.nodup_cons.1 hd
      have hb1:base≠i:=fun e=>hb (by simp [e])
      have hb2:base∉r:=fun e=>hb (List.mem_cons_of_mem _ e)
      obtain ⟨q1,q2⟩:=outU_spec (ids:=r) hL' hd2 hb2
      refine ⟨by simpa using q1,fun N => ?_⟩
      obtain ⟨r1,r2,r3,r4⟩:=q2 (setAt N i (some o'))
      refine ⟨fun p j o2 hp => ?_,fun hl o2 => ?_,fun hl => ?_,fun j hj hne => ?_⟩
      · cases p with
        | zero =>
          simp at hp;subst hp
          simp only [upds]
          rw [r4 i hd1 (Ne.symm hb1),objAt_setAt,if_pos rfl]
          constructor
          · intro h;cases h;exact ⟨o,rfl,ho⟩
          · rintro ⟨o3,h3,h4⟩
            simp at h3;subst h3
            rw [ho] at h4;exact h4
        | succ p =>
          simp only [upds]
          rw [List.getElem?_cons_succ] at hp
          rw [r1 p j o2 hp]
          rfl
      · have:=r2 (by simpa using hl) o2
        simpa [upds] using this
      · simp only [upds]
        rw [r3 (by simpa using hl),objAt_setAt,if_neg (Ne.symm hb1)]
      · simp only [upds]
        rw [r4 j (fun e=>hj (List.mem_cons_of_mem _ e)) hne,objAt_setAt,if_neg (fun e=>hj (by simp [e]))]
    · cases h
  | [],none::_,L,h,_,_=>by unfold outU at h;cases h
  | [],some _::_::_,L,h,_,_=>by unfold outU at h;cases h
  | _::_,[],L,h,_,_=>by unfold outU at h;cases h
  | _::_,none::_,L,h,_,_=>by unfold outU at h;cases h

theorem outU_all{ids0:List Nat}{base:Nat}:∀ {ids:List Nat} {m:Mem} {L:Upd},outU ids0 base ids m=some L→∀ (p:Nat) (o1:AO),m[p]? = some (some o1)→∃ o',mpO (bkI ids0 base) o1=some o'
  | [],[],L,h,p,o1,hp=>by simp at hp
  | [],[some o],L,h,p,o1,hp=>by
    unfold outU at h
    split at h
    · rename_i hx
      cases p with
      | zero=>simp at hp;subst hp;exact ⟨_,hx⟩
      | succ p=>simp at hp
    · cases h
  | i::r,some o::m,L,h,p,o1,hp=>by
    unfold outU at h
    split at h
    · rename_i hx
      simp only [Option.map_eq_some_iff] at h
      obtain ⟨L',hL',_⟩:=h
      cases p with
      | zero=>simp at hp;subst hp;exact ⟨_,hx⟩
      | succ p=>exact outU_all hL' p o1 (by simpa using hp)
    · cases h
  | [],none::_,L,h,_,_,_=>by unfold outU at h;cases h
  | [],some _::_::_,L,h,_,_,_=>by unfold outU at h;cases h
  | _::_,[],L,h,_,_,_=>by unfold outU at h;cases h
  | _::_,none::_,L,h,_,_,_=>by unfold outU at h;cases h

def Cx.back(C C1:Cx)(ids:List Nat)(base:Nat):Cx :=
  { ι:=fun j=>match idx ids j 0 with | some p=>C1.ι p | none=>if j=base then C1.ι ids.length else C.ι j
    κ:=fun j=>match idx ids j 0 with | some p=>C1.κ p | none=>if j=base then C1.κ ids.length else C.κ j
    F:=C1.F }
theorem idx_at:∀ {ids:List Nat},ids.Nodup→∀ {p i:Nat} (n:Nat),ids[p]? = some i→idx ids i n=some (n+p)
  | [],_,p,i,n,h=>by simp at h
  | a::r,hd,p,i,n,h=>by
    obtain ⟨h1,h2⟩:=List.nodup_cons.1 hd
    unfold idx
    cases p with
    | zero=>simp at h;subst h;simp
    | succ p =>
      rw [List.getElem?_cons_succ] at h
      have hne:a≠i:=fun e=>h1 (e ▸ List.mem_of_getElem? h)
      have hb:Nat.beq a i=false:=by
        cases hq:Nat.beq a i with
        | false=>rfl
        | true=>exact absurd (Nat.eq_of_beq_eq_true hq) hne
      rw [hb]
      have:=idx_at h2 (n+1) h
      simp only [this]
      congr 1;omega

theorem repL_mp{f:Nat→Option Nat}{C':Cx}{M':Mem}(hm:Mapd f C C' M M'):∀ {l ys:List AV} {us:List Value},RepL C M w l us→mpL f l=some ys→RepL C' M' w ys us
  | [],ys,us,h,hr=>by cases h;simp only [mpL] at hr;cases hr;exact .nil
  | x::r,ys,us,h,hr=>by
    cases h with
    | cons _ u _ k hx hk =>
      simp only [mpL] at hr
      split at hr
      · rename_i y hy
        simp only [Option.map_eq_some_iff] at hr
        obtain ⟨r',hr',rfl⟩:=hr
        exact .cons _ _ _ _ (mpA_sound hm hx hy) (repL_mp hm hk hr')
      · cases hr

theorem back_ok{base:Nat}{ids:List Nat}{r y:AV}{L:Upd}{C1:Cx}{w':World}{u:Value}(hd:distinct 0 ids=true)(hb:freeB M base=true)
    (hs:rnM 0 ids (ids.map (at? M))=some M0) (hlv:∀ i∈ids,liveAt M i=true) (hU:outU ids base ids M1=some L) (hy:mpA (bkI ids base) r=some y)
    (hM:MemOK P C M w) (hF:Fr (C.rn 0 ids) M0 w C1 M1 w') (hM1:MemOK P C1 M1 w') (hr:Rep C1 M1 w' r u):Fr C M w (C.back C1 ids base) (upds M L) w'∧MemOK P (C.back C1 ids base) (upds M L) w'∧Rep (C.back C1 ids base) (upds M L) w' y u:=by
  obtain ⟨_,hnd⟩:=distinct_spec hd
  obtain ⟨hM0,hmp,hsrc⟩:=pick_mem (k:=0) hM hd hs
  have hlen:M0.length=ids.length:=by have:=(mpM_at hs).1;simpa using this
  have hbn:base∉ids:=fun hm=>by
    obtain ⟨o,h1,_⟩:=liveAt_inv (hlv _ hm)
    exact freeB_inv hb o h1
  obtain ⟨hl1,hup⟩:=outU_spec hU hnd hbn
  obtain ⟨u1,u2,u3,u4⟩:=hup M
  have hL:=hM0.le hF
  have srcp:∀ p i,ids[p]? = some i→srcI 0 ids p=some i:=fun p i h=>by simp [srcI,h]
  have rnp:∀ p i,ids[p]? = some i→rnI 0 ids i=some p:=fun p i h=>by
    have:=idx_at hnd 0 h
    unfold rnI
    rw [show Nat.blt i 0=false from rfl,this,Nat.zero_add]
  have shown0:∀ p i,ids[p]? = some i→∃ o o0,M[i]? = some (some o)∧o.live=true∧M0[p]? = some (some o0)∧o0.live=true∧(C.rn 0 ids).ι p=C.ι i∧(C.rn 0 ids).κ p=C.κ i:=fun p i hp=>by
    obtain ⟨o,h1,h2⟩:=liveAt_inv (hlv i (List.mem_of_getElem? hp))
    obtain ⟨o0,h3,h4⟩:=hmp.fw _ _ _ (rnp p i hp) h1
    exact ⟨o,o0,h1,h2,h3,by rw [mpO_live h4];exact h2,hmp.at_ _ _ (rnp p i hp)⟩
  have sh_of:∀ (p:Nat) (o0:AO),M0[p]? = some (some o0)→∃ i o,ids[p]? = some i∧M[i]? = some (some o)∧o.live=true∧o0.live=true∧(C.rn 0 ids).ι p=C.ι i:=fun p o0 hp=>by
    obtain ⟨hl,_⟩:=List.getElem?_eq_some_iff.1 hp
    have hp':ids[p]? = some ids[p]:=List.getElem?_eq_getElem (by omega)
    obtain ⟨o,o1,h1,h2,h3,h4,h5,_⟩:=shown0 p _ hp'
    rw [hp] at h3;cases h3
    exact ⟨_,o,hp',h1,h2,h4,h5⟩
  have apart:∀ (j:Nat) (o:AO) (b:Nat),j∉ids→M[j]? = some (some o)→o.live=true→C.ι j=some b→w'.heap[b]? = w.heap[b]? ∧ ¬ C1.F b∧∀ (p:Nat) (o1:AO),M1[p]? = some (some o1)→o1.live=true→C1.ι p≠some b:=fun j o b hj h1 h2 h3=>by
    have hb1:=hM.lt j o b h1 h2 h3
    have no0:∀ (p:Nat) (o0:AO),M0[p]? = some (some o0)→o0.live=true→(C.rn 0 ids).ι p≠some b:=fun p o0 hp _ he=>by
      obtain ⟨i,o2,q1,q2,q3,_,q4⟩:=sh_of p o0 hp
      rw [q4] at he
      have:=hM.inj j i o o2 b h1 h2 q2 q3 h3 he
      subst this
      exact hj (List.mem_of_getElem? q1)
    refine ⟨hF.keep b hb1 no0,fun hf => ?_,fun p o1 hp hl he => ?_⟩
    · rcases hF.F2 b hf with q | q | ⟨p,o0,q1,q2,q3⟩
      · exact hM.nF j o b h1 h2 h3 q
      · omega
      · exact no0 p o0 q1 q2 q3
    · rcases hF.new p o1 b hp hl he with q | ⟨p0,o0,q1,q2,q3⟩
      · omega
      · exact no0 p0 o0 q1 q2 q3
  have ix:∀ j,(j∈ids→∃ p,idx ids j 0=some p∧ids[p]? = some j)∧(j∉ids→idx ids j 0=none):=fun j=>by
    refine ⟨fun hj => ?_,fun hj => ?_⟩
    · obtain ⟨p,hp,he⟩:=List.mem_iff_getElem.1 hj
      have:ids[p]? = some j:=by rw [List.getElem?_eq_getElem hp,he]
      exact ⟨p,by simpa using idx_at hnd 0 this,this⟩
    · cases h1:idx ids j 0 with
      | none=>rfl
      | some p =>
        obtain ⟨_,h2⟩:=idx_spec _ _ _ _ h1
        exact absurd (List.mem_of_getElem? h2) hj
  have cls:∀ (j:Nat) (o':AO),(upds M L)[j]? = some (some o')→(∃ p o1,ids[p]? = some j∧M1[p]? = some (some o1)∧mpO (bkI ids base) o1=some o'∧(C.back C1 ids base).ι j=C1.ι p∧(C.back C1 ids base).κ j=C1.κ p) ∨
      (∃ o1,j=base∧j∉ids∧M1[ids.length]? = some (some o1)∧mpO (bkI ids base) o1=some o'∧(C.back C1 ids base).ι j=C1.ι ids.length∧(C.back C1 ids base).κ j=C1.κ ids.length) ∨
      (j∉ids∧j≠base∧M[j]? = some (some o')∧(C.back C1 ids base).ι j=C.ι j∧(C.back C1 ids base).κ j=C.κ j):=fun j o' hj=>by
    rw [← objAt_iff] at hj
    by_cases hm:j∈ids
    · obtain ⟨p,hp1,hp2⟩:=(ix j).1 hm
      obtain ⟨o1,h1,h2⟩:=(u1 p j o' hp2).1 hj
      exact .inl ⟨p,o1,hp2,h1,h2,by simp [Cx.back,hp1],by simp [Cx.back,hp1]⟩
    · have hn:=(ix j).2 hm
      by_cases hjb:j=base
      · subst hjb
        rcases hl1 with hl | hl
        · rw [u3 hl] at hj
          have:=freeB_inv hb o'
          exact absurd (objAt_iff.1 hj) this
        · obtain ⟨o1,h1,h2⟩:=(u2 hl o').1 hj
          exact .inr (.inl ⟨o1,rfl,hm,h1,h2,by simp [Cx.back,hn],by simp [Cx.back,hn]⟩)
      · rw [u4 j hm hjb] at hj
        exact .inr (.inr ⟨hm,hjb,objAt_iff.1 hj,by simp [Cx.back,hn,hjb],by simp [Cx.back,hn,hjb]⟩)
  have hF2:Fr C M w (C.back C1 ids base) (upds M L) w':=by
    refine ⟨hF.os,hF.tape,hF.out,hF.size,fun b hb1 hn => ?_,fun i o ho => ?_,fun i o ho ty n cs hx => ?_,fun i o ho o' hx hl => ?_,fun j o b hj hl hjb => ?_,fun b hb=>hF.F1 b hb,fun b hb => ?_⟩
    · exact hF.keep b hb1 fun p o0 hp hl he=>by
        obtain ⟨i,o2,q1,q2,q3,_,q4⟩:=sh_of p o0 hp
        rw [q4] at he
        exact hn i o2 q2 q3 he
    · by_cases hm:i∈ids
      · obtain ⟨p,hp1,hp2⟩:=(ix i).1 hm
        obtain ⟨_,o0,_,_,h3,h4,h5,h6⟩:=shown0 p i hp2
        obtain ⟨⟨o1,q1⟩,q2,q3⟩:=hF.ids p o0 h3
        refine ⟨?_,by simp only [Cx.back,hp1];rw [q2,h5],by simp only [Cx.back,hp1];rw [q3,h6]⟩
        have hq:∃ o',mpO (bkI ids base) o1=some o':=by
          exact outU_all hU p o1 q1
        obtain ⟨o',hq⟩:=hq
        exact ⟨o',objAt_iff.1 ((u1 p i o' hp2).2 ⟨o1,q1,hq⟩)⟩
      · have hne:i≠base:=fun e=>by subst e;exact freeB_inv hb o ho
        refine ⟨⟨o,objAt_iff.1 (by rw [u4 i hm hne];exact objAt_iff.2 ho)⟩,by simp [Cx.back,(ix i).2 hm,hne],by simp [Cx.back,(ix i).2 hm,hne]⟩
    · rcases cls i _ hx with ⟨p,o1,q1,q2,q3,_⟩ | ⟨o1,rfl,_⟩ | ⟨_,_,q3,_⟩
      · rw [mpO_row q3] at q2
        obtain ⟨o2,o0,h1,_,h3,_⟩:=shown0 p i q1
        obtain ⟨cs',h5⟩:=hF.row p o0 h3 _ _ _ q2
        obtain ⟨o4,h6,h7⟩:=hmp.bk _ _ _ (rnp p i q1) h5
        rw [mpO_row h7] at h6
        exact ⟨cs',h6⟩
      · exact absurd ho (freeB_inv hb o)
      · exact ⟨cs,q3⟩
    · rcases cls i _ hx with ⟨p,o1,q1,q2,q3,_⟩ | ⟨o1,rfl,_⟩ | ⟨_,_,q3,_⟩
      · obtain ⟨o2,o0,h1,h2,h3,_⟩:=shown0 p i q1
        rw [ho] at h1;cases h1
        exact h2
      · exact absurd ho (freeB_inv hb o)
      · rw [ho] at q3;cases q3;exact hl
    · have fin:∀ (p:Nat) (o1:AO),M1[p]? = some (some o1)→o1.live=true→C1.ι p=some b→w.heap.size≤b∨∃ (id0:Nat) (o0:AO),M[id0]? = some (some o0)∧o0.live=true∧C.ι id0=some b:=fun p o1 h1 h2 h3=>by
        rcases hF.new p o1 b h1 h2 h3 with q | ⟨p0,o0,q1,q2,q3⟩
        · exact .inl q
        · obtain ⟨i,o2,r1,r2,r3,_,r4⟩:=sh_of p0 o0 q1
          rw [r4] at q3
          exact .inr ⟨i,o2,r2,r3,q3⟩
      rcases cls j _ hj with ⟨p,o1,q1,q2,q3,q4,_⟩ | ⟨o1,rfl,_,q2,q3,q4,_⟩ | ⟨_,_,q3,q4,_⟩
      · rw [q4] at hjb
        exact fin p o1 q2 (by rw [← mpO_live q3];exact hl) hjb
      · rw [q4] at hjb
        exact fin _ o1 q2 (by rw [← mpO_live q3];exact hl) hjb
      · rw [q4] at hjb
        exact .inr ⟨j,o,q3,hl,hjb⟩
    · rcases hF.F2 b hb with q | q | ⟨p,o0,q1,q2,q3⟩
      · exact .inl q
      · exact .inr (.inl q)
      · obtain ⟨i,o2,r1,r2,r3,_,r4⟩:=sh_of p o0 q1
        rw [r4] at q3
        exact .inr (.inr ⟨i,o2,r2,r3,q3⟩)
  have hL2:=hM.le hF2
  have hbk:Mapd (bkI ids base) C1 (C.back C1 ids base) M1 (upds M L):=by
    have two:∀ i j,bkI ids base i=some j→(ids[i]? = some j)∨(i=ids.length∧j=base):=fun i j h=>by
      unfold bkI at h
      split at h
      · rename_i hi;cases h;exact .inl hi
      · split at h
        · rename_i hq;cases h;exact .inr ⟨Nat.eq_of_beq_eq_true hq,rfl⟩
        · cases h
    have big:∀ (o:AO),M1[ids.length]? = some (some o)→M1.length=ids.length+1:=fun o h=>by
      obtain ⟨hl,_⟩:=List.getElem?_eq_some_iff.1 h
      omega
    refine ⟨fun i j o' hij hj => ?_,fun i j o hij hi => ?_,fun i j hij => ?_,fun _ h=>h⟩
    · rcases two i j hij with h1 | ⟨rfl,rfl⟩
      · exact (u1 i j o' h1).1 (objAt_iff.2 hj)
      · rcases hl1 with hl | hl
        · have:=objAt_iff.2 hj
          rw [u3 hl] at this
          exact absurd (objAt_iff.1 this) (freeB_inv hb o')
        · exact (u2 hl o').1 (objAt_iff.2 hj)
    · have hq:∃ o',mpO (bkI ids base) o=some o':=by
        exact outU_all hU i o hi
      obtain ⟨o',hq⟩:=hq
      rcases two i j hij with h1 | ⟨rfl,rfl⟩
      · exact ⟨o',objAt_iff.1 ((u1 i j o' h1).2 ⟨o,hi,hq⟩),hq⟩
      · exact ⟨o',objAt_iff.1 ((u2 (big o hi) o').2 ⟨o,hi,hq⟩),hq⟩
    · rcases two i j hij with h1 | ⟨rfl,rfl⟩
      · have:=idx_at hnd 0 h1
        rw [Nat.zero_add] at this
        simp [Cx.back,this]
      · simp [Cx.back,(ix _).2 hbn]
  refine ⟨hF2,⟨fun j ty n cs h => ?_,fun j ty cs h => ?_,fun j es cl h => ?_,fun j j' o1 o2 b q1 l1 q2 l2 e1 e2 => ?_,fun j o b h hl hb => ?_,hM1.Fs,fun j o b h hl hb => ?_⟩,mpA_sound hbk hr hy⟩
  · rcases cls j _ h with ⟨p,o1,q1,q2,q3,q4,q5⟩ | ⟨o1,rfl,_,q2,q3,q4,q5⟩ | ⟨q1,_,q3,q4,q5⟩
    · rw [mpO_row q3] at q2
      rw [q4,q5]
      exact hM1.row _ _ _ _ q2
    · rw [mpO_row q3] at q2
      rw [q4,q5]
      exact hM1.row _ _ _ _ q2
    · rw [q4,q5]
      rcases hM.row _ _ _ _ q3 with q | ⟨b,arr,inf,p0,p1,p2,p3,p4,p5,p6,p7,p8⟩
      · exact .inl q
      · exact .inr ⟨b,arr,inf,p0,by rw [(apart j _ b q1 q3 rfl p0).1];exact p1,p2,p3,p4,p5,p6,fun i hi=>(p7 i hi).mono hL2.F hL2.fz,p8⟩
  · rcases cls j _ h with ⟨p,o1,q1,q2,q3,q4,q5⟩ | ⟨o1,rfl,_,q2,q3,q4,q5⟩ | ⟨q1,_,q3,q4,q5⟩
    · cases o1 with
      | box ty' l =>
        simp only [mpO,Option.map_eq_some_iff] at q3
        obtain ⟨l',hl',e⟩:=q3
        cases e
        obtain ⟨b,arr,p0,p1,p2,p3,p4⟩:=hM1.box _ _ _ q2
        obtain ⟨n1,n2⟩:=mpL_sound hbk (w:=w') (us:=fun j=>arr.getD j undef) p3 hl'
        exact ⟨b,arr,by rw [q4];exact p0,p1,by omega,n2,fun j hj=>p4 j (by omega)⟩
      | row=>simp [mpO] at q3
      | mp=>simp [mpO] at q3
      | pk=>simp [mpO] at q3
      | dead=>simp [mpO] at q3
    · cases o1 with
      | box ty' l =>
        simp only [mpO,Option.map_eq_some_iff] at q3
        obtain ⟨l',hl',e⟩:=q3
        cases e
        obtain ⟨b,arr,p0,p1,p2,p3,p4⟩:=hM1.box _ _ _ q2
        obtain ⟨n1,n2⟩:=mpL_sound hbk (w:=w') (us:=fun j=>arr.getD j undef) p3 hl'
        exact ⟨b,arr,by rw [q4];exact p0,p1,by omega,n2,fun j hj=>p4 j (by omega)⟩
      | row=>simp [mpO] at q3
      | mp=>simp [mpO] at q3
      | pk=>simp [mpO] at q3
      | dead=>simp [mpO] at q3
    · obtain ⟨b,arr,p0,p1,p2,p3,p4⟩:=hM.box _ _ _ q3
      exact ⟨b,arr,by rw [q4];exact p0,by rw [(apart j _ b q1 q3 rfl p0).1];exact p1,p2,fun i hi=>(p3 i hi).mono hL2,p4⟩
  · rcases cls j _ h with ⟨p,o1,q1,q2,q3,q4,q5⟩ | ⟨o1,rfl,_,q2,q3,q4,q5⟩ | ⟨q1,_,q3,q4,q5⟩
    · cases o1 with
      | mp es' cl' =>
        simp only [mpO,Option.some.injEq] at q3
        cases q3
        obtain ⟨b,arr,p0,p1,p2,p3⟩:=hM1.mp _ _ _ q2
        refine ⟨b,arr,by rw [q4];exact p0,p1,p2,fun j hj => ?_⟩
        obtain ⟨en,s1,s2,s3,s4⟩:=p3 j hj
        exact ⟨en,s1,s2,s3,s4.mono hbk.F (fun _ _=>rfl)⟩
      | row=>simp [mpO] at q3
      | box=>simp [mpO] at q3
      | pk=>simp [mpO] at q3
      | dead=>simp [mpO] at q3
    · cases o1 with
      | mp es' cl' =>
        simp only [mpO,Option.some.injEq] at q3
        cases q3
        obtain ⟨b,arr,p0,p1,p2,p3⟩:=hM1.mp _ _ _ q2
        refine ⟨b,arr,by rw [q4];exact p0,p1,p2,fun j hj => ?_⟩
        obtain ⟨en,s1,s2,s3,s4⟩:=p3 j hj
        exact ⟨en,s1,s2,s3,s4.mono hbk.F (fun _ _=>rfl)⟩
      | row=>simp [mpO] at q3
      | box=>simp [mpO] at q3
      | pk=>simp [mpO] at q3
      | dead=>simp [mpO] at q3
    · obtain ⟨b,arr,p0,p1,p2,p3⟩:=hM.mp _ _ _ q3
      refine ⟨b,arr,by rw [q4];exact p0,by rw [(apart j _ b q1 q3 rfl p0).1];exact p1,p2,fun i hi => ?_⟩
      obtain ⟨en,s1,s2,s3,s4⟩:=p3 i hi
      exact ⟨en,s1,s2,s3,s4.mono hL2.F hL2.fz⟩
  · rcases cls j _ q1 with ⟨p,a1,r1,r2,r3,r4,_⟩ | ⟨a1,rfl,r1,r2,r3,r4,_⟩ | ⟨r1,rb,r3,r4,_⟩ <;> rcases cls j' _ q2 with ⟨p',a2,t1,t2,t3,t4,_⟩ | ⟨a2,rfl,t1,t2,t3,t4,_⟩ | ⟨t1,tb,t3,t4,_⟩
    all_goals try rfl
    all_goals (rw [r4] at e1;rw [t4] at e2)
    · have:=hM1.inj p p' a1 a2 b r2 (by rw [← mpO_live r3];exact l1) t2 (by rw [← mpO_live t3];exact l2) e1 e2
      subst this
      rw [r1] at t1;cases t1;rfl
    · have:=hM1.inj p _ a1 a2 b r2 (by rw [← mpO_live r3];exact l1) t2 (by rw [← mpO_live t3];exact l2) e1 e2
      obtain ⟨hl,_⟩:=List.getElem?_eq_some_iff.1 r1
      omega
    · exact absurd e1 ((apart j' o2 b t1 t3 l2 e2).2.2 p a1 r2 (by rw [← mpO_live r3];exact l1))
    · have:=hM1.inj _ p' a1 a2 b r2 (by rw [← mpO_live r3];exact l1) t2 (by rw [← mpO_live t3];exact l2) e1 e2
      obtain ⟨hl,_⟩:=List.getElem?_eq_some_iff.1 t1
      omega
    · exact absurd e1 ((apart j' o2 b t1 t3 l2 e2).2.2 _ a1 r2 (by rw [← mpO_live r3];exact l1))
    · exact absurd e2 ((apart j o1 b r1 r3 l1 e1).2.2 p' a2 t2 (by rw [← mpO_live t3];exact l2))
    · exact absurd e2 ((apart j o1 b r1 r3 l1 e1).2.2 _ a2 t2 (by rw [← mpO_live t3];exact l2))
    · exact hM.inj j j' o1 o2 b r3 l1 t3 l2 e1 e2
  · rcases cls j _ h with ⟨p,o1,q1,q2,q3,q4,q5⟩ | ⟨o1,rfl,_,q2,q3,q4,q5⟩ | ⟨q1,_,q3,q4,q5⟩
    · rw [q4] at hb
      exact hM1.nF _ _ b q2 (by rw [← mpO_live q3];exact hl) hb
    · rw [q4] at hb
      exact hM1.nF _ _ b q2 (by rw [← mpO_live q3];exact hl) hb
    · rw [q4] at hb
      exact (apart j o b q1 q3 hl hb).2.1
  · rcases cls j _ h with ⟨p,o1,q1,q2,q3,q4,q5⟩ | ⟨o1,rfl,_,q2,q3,q4,q5⟩ | ⟨q1,_,q3,q4,q5⟩
    · rw [q4] at hb
      exact hM1.lt _ _ b q2 (by rw [← mpO_live q3];exact hl) hb
    · rw [q4] at hb
      exact hM1.lt _ _ b q2 (by rw [← mpO_live q3];exact hl) hb
    · rw [q4] at hb
      exact Nat.lt_of_lt_of_le (hM.lt j o b q3 hl hb) hF.size

theorem call_shown{f base:Nat}{ids:List Nat}{args args0:List AV}{r y:AV}{L:Upd}(hd:distinct 0 ids=true)(hb:freeB M base=true)
    (hs:rnM 0 ids (ids.map (at? M))=some M0) (hlv:∀ i∈ids,liveAt M i=true) (ha:rnL 0 ids args=some args0) (hU:outU ids base ids M1=some L) (hy:mpA (bkI ids base) r=some y)
    (h:FMM P f args0 M0 r M1):FM P f args M y L:=by
  intro C w us hus hM n
  obtain ⟨hM0,hmp,_⟩:=pick_mem (k:=0) hM hd hs
  refine (h (C.rn 0 ids) w us (repL_mp hmp hus ha) hM0 n).mono ?_
  rintro e w' ⟨u,rfl,C1,hF,hM1,hr⟩
  exact ⟨u,rfl,C.back C1 ids base,back_ok hd hb hs hlv hU hy hM hF hM1 hr⟩
theorem FMMP.fcp{f base to ti sz:Nat}{args:List AV}{r y:AV}{L:List (Nat × List PV)}(h:FMMP P f args [] r [some (.pk to ti sz L)])(ha:rnL 0 [] args=some args)(hy:mpA (bkI [] base) r=some y):FCP P f args base y (.pk to ti sz L):=by
  intro M hb C w us hus hM n
  obtain ⟨hM0,hmp,_⟩:=pick_mem (k:=0) (ids:=[]) (M':=[]) hM rfl rfl
  refine (h (C.rn 0 []) w us (repL_mp hmp hus ha) hM0 n).mono ?_
  rintro e w' ⟨u,rfl,C1,hF,hM1,hr,hP⟩
  obtain ⟨b1,b2,b3⟩:=back_ok (base:=base) (ids:=[]) (M1:=[some (.pk to ti sz L)]) (L:=[(base,.pk to ti sz L)]) rfl hb rfl (by simp) rfl hy hM hF hM1 hr
  refine ⟨u,rfl,C.back C1 [] base,b1,b2,b3,fun to' ti' sz' L' e => ?_⟩
  cases e
  obtain ⟨q,_,q1⟩:=hP.1 0 to ti sz L rfl
  have hfr:∀ b,PBlk (C1.κ 0) b→w.heap.size≤b:=fun b hb2=>by
    rcases (q1 b hb2).1 with h | ⟨id,o,h,_⟩
    · exact h
    · simp at h
  have e0:(C.back C1 [] base).ι base=C1.ι 0:=by simp [Cx.back,idx]
  have e1:(C.back C1 [] base).κ base=C1.κ 0:=by simp [Cx.back,idx]
  refine ⟨q.move (e0.trans q.io) e1 (fun _ h=>h) (fun _ _=>rfl) fun b hb2=>⟨rfl,(q.own b hb2).1,fun i o ho hl he => ?_⟩,by rw [e1];exact hfr⟩
  by_cases ei:i=base
  · subst ei;rw [e0,q.io] at he;cases he
  · have ho':=(setAt_other M base i _ o (fun e=>ei e.symm)).1 ho
    have:(C.back C1 [] base).ι i=C.ι i:=by simp [Cx.back,idx,ei]
    rw [this] at he
    have h1:=hM.lt i o b ho' hl he
    have h2:=hfr b hb2
    omega

def shown(ids:List Nat)(base:Nat)(args:List AV)(bs:Upd)(M1:Mem)(r:AV):Option (List AV × Mem × AV × Upd):=match distinct 0 ids && ids.all (liveAt (upds [] bs)) with
  | true=>match rnM 0 ids (ids.map (at? (upds [] bs))) with
    | some M0=>match rnL 0 ids args with
      | some args0=>match outU ids base ids M1 with
        | some L=>match mpA (bkI ids base) r with
          | some y=>some (args0,M0,y,L)
          | none=>none
        | none=>none
      | none=>none
    | none=>none
  | false=>none
theorem FMM.fc{f base:Nat}{ids:List Nat}{args args0:List AV}{bs:Upd}{r y:AV}{L:Upd}(h:FMM P f args0 M0 r M1)(hs:shown ids base args bs M1 r=some (args0,M0,y,L)):FC P f args bs base y L:=fun M hb hf=>by
  unfold shown at hs
  have hsub:SubM (upds [] bs) M:=fun id o ho=>by
    rcases upds_mem bs [] id o ho with h5 | h5
    · exact hb _ h5
    · simp [objAt] at h5
  split at hs
  · rename_i hd
    rw [Bool.and_eq_true,List.all_eq_true] at hd
    have hlv:∀ i∈ids,∃ o,objAt (upds [] bs) i=some o∧objAt M i=some o∧o.live=true:=fun i hi=>by
      obtain ⟨o,h1,h2⟩:=liveAt_inv (hd.2 i hi)
      exact ⟨o,objAt_iff.2 h1,hsub _ _ (objAt_iff.2 h1),h2⟩
    split at hs
    · rename_i h1
      split at hs
      · rename_i h2
        split at hs
        · rename_i h3
          split at hs
          · rename_i h4
            cases hs
            have he:ids.map (at? M)=ids.map (at? (upds [] bs)):=List.map_congr_left fun i hi=>by
              obtain ⟨o,q1,q2,_⟩:=hlv i hi
              unfold at?
              rw [q1,q2]
            refine call_shown hd.1 hf (by rw [he];exact h1) (fun i hi => ?_) h2 h3 h4 h
            obtain ⟨o,_,q2,q3⟩:=hlv i hi
            exact live_of (objAt_iff.1 q2) q3
          · cases hs
        · cases hs
      · cases hs
    · cases hs
  · cases hs

theorem fzL_repL{id ty n:Nat}{cs:List PV}(hM:MemOK P C M w)(ho:M[id]? = some (some (.row ty n cs))):∀ {l:List AV} {us:List Value},RepL C M w l us→RepL (C.close id true) (setAt M id (some .dead)) w (fzL id n cs l) us
  | [],us,h=>by cases h;simp only [fzL];exact .nil
  | x::r,us,h=>by
    cases h with
    | cons _ u _ k hx hr =>
      simp only [fzL]
      exact .cons _ _ _ _ (fzA_sound hM ho hx) (fzL_repL hM ho hr)
theorem FM.close1{f id ty n:Nat}{cs:List PV}{args:List AV}{y:AV}{L:Upd}(ho:objAt M id=some (.row ty n cs))(h:FM P f (fzL id n cs args) (setAt M id (some .dead)) y L):FM P f args M y ((id,.dead)::L):=fun C w us hus hM k=>by
  have ho:=objAt_iff.1 ho
  have fk:=fr_kill (C:=C) (w:=w) true ho rfl
  refine (h _ w us (fzL_repL hM ho hus) (mem_kill hM true ho rfl) k).mono ?_
  rintro e w' ⟨u,rfl,C',hF,hM',hr⟩
  exact ⟨u,rfl,C',fk.trans hF,hM',hr⟩
def closeB(bs:Upd):List Nat→List AV→Option (List AV)
  | [],args=>match noRefL args with
    | true=>some args
    | false=>none
  | id::r,args=>match objAt (upds [] bs) id with
    | some (.row _ n cs)=>match r.all (fun j => !Nat.beq j id) with
      | true=>closeB bs r (fzL id n cs args)
      | false=>none
    | _=>none
def kills:List Nat→Upd→Upd
  | [],L=>L
  | id::r,L=>(id,.dead)::kills r L
theorem closeB_fm{f base:Nat}{bs:Upd}{y:AV}{L:Upd}:∀ {ids:List Nat} {M:Mem} {args args':List AV},closeB bs ids args=some args'→(∀ id∈ids,∀ o,objAt (upds [] bs) id=some o→objAt M id=some o)→freeB M base=true→FV P f args' base y L→FM P f args M y (kills ids L)
  | [],M,args,args',hc,_,hf,h=>by
    unfold closeB at hc
    split at hc
    · rename_i hn
      cases hc
      obtain ⟨r,M1,h1,h2⟩:=h
      exact call_lift (.inl ⟨hn,rfl⟩) hf h2 h1
    · cases hc
  | id::r,M,args,args',hc,hb,hf,h=>by
    unfold closeB at hc
    split at hc
    · rename_i ty n cs ho
      split at hc
      · rename_i hd
        have hoM:=hb id (List.mem_cons_self ..) _ ho
        refine FM.close1 hoM (closeB_fm hc (fun j hj o hjo => ?_) ?_ h)
        · have hne:j≠id:=fun e=>by
            have:=List.all_eq_true.1 hd j hj
            subst e
            simp at this
          rw [objAt_setAt,if_neg (Ne.symm hne)]
          exact hb j (List.mem_cons_of_mem _ hj) o hjo
        · have hne:id≠base:=fun e=>by
            subst e
            exact freeB_inv hf _ (objAt_iff.1 hoM)
          unfold freeB at hf ⊢
          rw [objAt_setAt,if_neg hne];exact hf
      · cases hc
    · cases hc
theorem FV.close{f base:Nat}{ids:List Nat}{args args':List AV}{y:AV}{L:Upd}{bs:Upd}(h:FV P f args' base y L)(hc:closeB bs ids args=some args'):FC P f args bs base y (kills ids L):=fun M hb hf=>by
  refine closeB_fm hc (fun id _ o ho => ?_) hf h
  rcases upds_mem bs [] id o ho with h5 | h5
  · exact hb _ h5
  · simp [objAt] at h5

def unA:AV→AV
  | .tup l => .tup (l.map un)
  | x=>un x
theorem unA_rep{x:AV}{u:Value}(h:Rep C M w x u):Rep C M w (unA x) u:=by
  cases h with
  | tup cs vs h1 h2 =>
    refine .tup _ _ (by simpa using h1) (fun i hi => ?_)
    simp only [List.getElem_map]
    exact un_rep (h2 i (by simpa using hi))
  | p x u h=>exact .p _ _ h
  | any u=>exact .any u
  | kb b=>exact un_rep (.kb b)
  | yld l=>exact .yld l
  | own id u h0 ha h=>exact .own id u h0 ha h
  | arr id off n u h0 ha h=>exact .arr id off n u h0 ha h
  | ptr id off u h0 ha h=>exact .ptr id off u h0 ha h
  | mp id u h0 ha h=>exact .mp id u h0 ha h
  | pa id q u h0 ha h=>exact .pa id q u h0 ha h
  | rp cs off b o us h1 h2 h3=>exact .rp cs off b o us h1 h2 h3
  | agg cs vs h0 h1 h2=>exact .agg cs vs h0 h1 h2
  | fn f cs ds us vs h1 h2 h3 h4=>exact .fn f cs ds us vs h1 h2 h3 h4
theorem FMMP.un{f:Nat}{args:List AV}{M M1:Mem}{r:AV}(h:FMMP P f args M r M1):FMMP P f args M (unA r) M1:=fun C w us hus hM n=>by
  refine (h C w us hus hM n).mono ?_
  rintro e w' ⟨u,rfl,C1,hF,hM1,hr,hP⟩
  exact ⟨u,rfl,C1,hF,hM1,unA_rep hr,hP⟩

def finM(k:Nat)(g:Gh)(x:Option ((AV × Mem) × AS)):Option (AV × Mem × List Prop × List OI):=match x with
  | some ((r,M1),s)=>match gh k g ⟨[unA r],M1⟩ with
    | some ⟨[r'],M'⟩=>some (r',M',s.obs,s.o)
    | _=>none
  | none=>none
theorem FMMP.gh{f k:Nat}{args:List AV}{M M1 M':Mem}{r r':AV}{g:Gh}(hk:M.length≤k)(h:FMMP P f args M r M1)(hg:KV.gh k g ⟨[r],M1⟩=some ⟨[r'],M'⟩):FMMP P f args M r' M':=fun C w us hus hM n=>by
  refine (h C w us hus hM n).mono ?_
  rintro e w' ⟨u,rfl,C1,hF,hM1,hr,hP⟩
  have hs:Sim P (C.with []) M w ⟨[r],M1⟩ { tmps := #[u],defers:=[] } w':=⟨C1,⟨rfl,fun i hi=>by
    obtain rfl:i=0:=by simpa using hi
    exact hr⟩,hM1,hF.based [],⟨[],rfl,.nil,fun D h=>by simp at h⟩,fun p hp=>(by cases hp),hP⟩
  obtain ⟨C2,hS,hM2,hF2,_,_,hP2⟩:=gh_sound hk hg hs
  exact ⟨u,rfl,C2,hF2.unbased,hM2,hS.rep 0 (by simp),hP2⟩
end
end KV
end Go.Proofs
