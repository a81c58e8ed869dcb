/- Parts of the proof of JDecisions: laws of walks, contracts of functions, plain models. No condition. -/
import Derived.Deep.WholeRow
import Derived.RangeFuncNested
import Derived.Test.YtgejpbmanhlkcaaGreatPJDecisionsC
set_option linter.unusedVariables false
set_option linter.unusedSimpArgs false
set_option maxRecDepth 100000
section
namespace Go.Proofs
open Go.RowKit
namespace KV
abbrev kVL (a b c d e f:Nat):List AV:=[.fn 154 [] [.ptr a 0,.ptr b 0,.ptr c 0,.ptr d 0],.fn 156 [] [.ptr e 0],.fn 157 [] [.ptr d 0,.ptr f 0],.fn 160 [] [.ptr d 0],.fn 158 [] [.ptr e 0]]
open Go.ChangeMaps (setBlock)

def abE(dc:Lqq):List (Value × PV):=(abM dc).map fun e=>(.int .i64 e.1,.sl e.2.length (e.2.flatten.map aA))
abbrev yO(dl:Int)(sk dc:Lqq):Mem:=[some (.box 130 [.ptr 1 0]),some (dkB dl (.sl sk.length (sk.flatten.map aA)) (.sl dc.length (dc.flatten.map aA)) (.mp 2) (.p (.mp (abE dc)))),some (.mp (atF dc.reverse) (atF dc.reverse).length),some .dead]
theorem aTx : sub (cd Tryz.f82) [1, 1, 1, 1, 0, 1, 0] = .rangeFunc (.tmp 27) #[28, 29] (.region 6 #[{ dst := some 8, op := .alloc 44, type := 0, pos := "jury.go:198", after := #[], guard := none }, { dst := none, op := .store 44 (.tmp 8) (.tmp 29), type := 0, pos := "jury.go:198", after := #[{ on := 0, ground := .data }, { on := 0, ground := .phase }], guard := none }] false) (sub (cd Tryz.f82) [1, 1, 1, 1, 0, 1, 0, 1]) := by kernel_rfl
theorem aQs{dc:Lqq}(h:cE dc):∀ x∈dc,bIc x:=fun x hx=>⟨h.ud x hx,(gU.1 (h.rng x hx)).1,kV h x hx⟩
theorem aCn{dc:Lqq}(x:Bk dc):mX dc x.1∈dc:=by
 unfold mX;rw [kQ5,kQ0 x.2];exact fV x.2
theorem bIb{dc:Lqq}{xs:List (Bk dc)}(h:xs.map (fun x=>x.1)=bk dc.length 0):xs.map (fun x=>mX dc x.1)=dc.reverse:=by
 have:xs.map (fun x=>mX dc x.1)=(xs.map (fun x=>x.1)).map (mX dc):=by rw [tZ];rfl
 rw [this,h,bNl,List.map_reverse]
 congr 1
 apply List.ext_getElem
 ·simp
 ·intro i h1 h2
  simp [mX,kQ5,kQ0 h2]

theorem aQt{F:Nat→Prop}{W:World}{mb cl:Nat}{ea:Array MapEntry}{L:List Ent}{dc:Lqq}(hok:lY mb ea L)(hls:L.map (fun e=>(e.k,e.l))=abM dc)(hborn:∀ y∈ea.toList,y.born<cl)
  (hhas:∀ p∈iO mb ea cl L,W.heap[p.1]? = some p.2∧F p.1):cX F W (.mp (abE dc)) (.map (some mb)):=by
 have hlen:ea.size=L.length:=by
  have:=congrArg List.length hok.ord;simpa using this
 have habE:abE dc=L.map fun e=>(.int .i64 e.k,.sl e.l.length (e.l.flatten.map aA)):=by
  unfold abE;rw [← hls,tZ];rfl
 obtain ⟨h0,hF0⟩:=hhas (mb,.map ea cl) (by simp [iO])
 refine cX.mp (abE dc) mb cl ea (fun j=>(L.map Ent.val).getD j undef) hF0 h0 (by rw [habE];simpa using hlen) (fun j hj => ?_) (fun j hj => ?_)
 ·have hjL:j<L.length:=by rw [habE] at hj;simpa using hj
  have hje:j<ea.size:=by omega
  have ho:(ea.toList.map fun x=>(x.key,x.val))[j]? = (L.map fun e=>(Value.int .i64 e.k,e.val))[j]? := by rw [hok.ord]
  rw [gM,gM,kQ0 hjL,kQ0 (by simpa using hje)] at ho
  simp only [Option.map_some,Option.some.injEq,Prod.mk.injEq] at ho
  refine ⟨ea[j],qK hje,?_,hborn _ (by simp),?_⟩
  ·simp only [habE,nU]
   simpa using ho.1
  ·rw [kQ5,gM,kQ0 hjL]
   simpa using ho.2
 ·have hjL:j<L.length:=by rw [habE] at hj;simpa using hj
  have hm:L[j]∈L:=fV hjL;have e1:(abE dc)[j].2 = .sl L[j].l.length (L[j].l.flatten.map aA):=by simp only [habE,nU]
  have e2:(L.map Ent.val).getD j undef=L[j].val:=by rw [kQ5,gM,kQ0 hjL];rfl
  rw [e1,e2];generalize L[j]=e at hm
  have he:=hok.ok e hm;obtain ⟨g1,g2⟩:=hhas e.blk (dL.2 (.inr ⟨e,hm,rfl⟩));change W.heap[e.b]? = some (.cells e.arr 44 (0,0)) at g1
  have hfl:(e.l.flatten.map aA).length=e.l.length*6:=by rw [fL,nW he.u]
  have hcell:∀ i,i<(e.l.flatten.map aA).length→∃ z,e.l.flatten[i]? = some z∧e.arr[i]? = some (.int .i64 z):=fun i hi=>by
   have hi':i<e.l.flatten.length:=by rw [fL] at hi;exact hi
   refine ⟨e.l.flatten[i],kQ0 hi',?_⟩;have h1:(e.arr.toList.take (e.l.length*6))[i]? = (e.l.flatten.map (Value.int .i64))[i]? := by rw [he.at_]
   rw [bKl (by omega),gM,kQ0 hi'] at h1
   simpa using h1
  refine .sl _ _ _ _ (fun i=>e.arr.getD i undef) he.le he.cap (fun i hi => ?_) (fun i hi => ?_) (fun i hi => ?_)
  ·obtain ⟨z,_,h2⟩:=hcell i hi
   refine ⟨e.b,0,rfl,g2,?_⟩;obtain ⟨h3,h4⟩:=kQ9.1 h2;rw [gN,cG g1 h3]
  ·obtain ⟨z,h1,h2⟩:=hcell i hi
   have:e.arr.getD i undef = .int .i64 z:=by rw [kQ2,h2];rfl
   rw [this,nU];obtain ⟨h3,h4⟩:=kQ3.1 h1;rw [h4];exact .v _
  ·obtain ⟨z,h1,h2⟩:=hcell i hi
   have:e.arr.getD i undef = .int .i64 z:=by rw [kQ2,h2];rfl
   rw [this];rfl
end KV
end Go.Proofs
end
section
namespace Go.Proofs
open Go.RowKit
namespace KV
open Go.ChangeMaps (setBlock)
section
variable {dl:Int} {sk dc:Lqq} {v1 v2:Value} {mb:Nat} {C C':Cx} {w W:World}

theorem bBs{arr0:Array MapEntry}(hM:aU Tp C (lX dl sk dc) w)(hmb:C.ι 3=some mb)(hmh:w.heap[mb]? = some (.map #[] 0))
  {bd:Nat} {ad:Array Value} {td:TypeId} (i1:C.ι 1=some bd) (hd:w.heap[bd]? = some (.cells ad td (0,0))) (q1:ad.getD 1 undef=v1) (q2:ad.getD 2 undef=v2):aLv dl sk dc v1 v2 C w mb [] w C #[] 0 []:=by
 have hF0:∀ (i:Nat) (o:AO),(xD dl v1 v2 mb [])[i]? = some (some o)→o.live=true→∃ o',(lX dl sk dc)[i]? = some (some o')∧o'.live=true:=fun i o h hl=>by
  have hi:=sN h hl;exact fC i (by omega)
 refine ⟨⟨fun _=>Iff.rfl,⟨fun i ty n cs h => ?_,fun i ty cs h => ?_,fun i es cl h => ?_,fun i i' o o' b h1 l1 h2 l2 e1 e2 => ?_,fun i o b h hl hb => ?_,hM.Fs,fun i o b h hl hb => ?_⟩,
  ⟨rfl,rfl,rfl,eG _,fun _ _ _=>rfl,fun i o h=>⟨?_,rfl,rfl⟩,fun i o h ty n cs hx => ?_,fun i o h o' hx hl => ?_,fun i o b h hl hb => ?_,fun _ h=>h,fun _ h => .inl h⟩⟩,lY.nil mb,rfl,fun y h=>by simp at h,fun p hp => ?_⟩
 ·rcases at4 h with ⟨rfl,e⟩ | ⟨rfl,e⟩ | ⟨rfl,e⟩ | ⟨rfl,e⟩ <;> cases e
 ·rcases at4 h with ⟨rfl,e⟩ | ⟨rfl,e⟩ | ⟨rfl,e⟩ | ⟨rfl,e⟩
  ·cases e
   obtain ⟨b,arr,r0,r1,r2,r3,r4⟩:=hM.box 0 _ _ rfl;refine ⟨b,arr,r0,r1,r2,fun j hj => ?_,r4⟩
   have:=r3 j hj;have hj0:j=0:=by simp at hj;exact hj
   subst hj0;simp only [List.getElem_cons_zero] at this ⊢
   cases this with
   | ptr _ _ _ h0 ha h hp =>
    refine .ptr _ _ _ h0 ⟨_,rfl⟩ (fun o ho hl => ?_) hp
    exact h _ rfl rfl
  ·cases e
   obtain ⟨b,arr,r0,r1,r2,r3,r4⟩:=hM.box 1 _ _ rfl;rw [i1] at r0;cases r0
   rw [hd] at r1;cases r1
   refine ⟨bd,ad,i1,hd,r2,fun j hj => ?_,r4⟩
   match j,hj with
   | 0,_ =>
    have:=r3 0 (by simp)
    cases this with
    | p _ _ h=>exact .p _ _ h
   | 1,_=>exact .p _ _ (by rw [q1];exact .v _)
   | 2,_=>exact .p _ _ (by rw [q2];exact .v _)
   | 3,_ =>
    have:=r3 3 (by simp)
    simp only [List.getElem_cons_succ,List.getElem_cons_zero] at this ⊢
    cases this with
    | mp _ _ h0 ha h =>
     refine .mp _ _ h0 ⟨_,rfl⟩ fun o ho hl => ?_
     exact h _ rfl rfl
   | 4,_ =>
    have:=r3 4 (by simp)
    simp only [List.getElem_cons_succ,List.getElem_cons_zero] at this ⊢
    generalize ad.getD 4 undef=u at this
    cases this with
    | mp _ _ h0 ha h =>
     obtain ⟨b,h1,h2⟩:=h _ rfl rfl;rw [hmb] at h2;cases h2
     rw [h1];exact .p _ _ (.v _)
  ·cases e
  ·cases e
 ·rcases at4 h with ⟨rfl,e⟩ | ⟨rfl,e⟩ | ⟨rfl,e⟩ | ⟨rfl,e⟩
  ·cases e
  ·cases e
  ·cases e;exact hM.mp 2 _ _ rfl
  ·cases e
 ·obtain ⟨p,q1,q2⟩:=hF0 _ _ h1 l1
  obtain ⟨p',q1',q2'⟩:=hF0 _ _ h2 l2;exact hM.inj i i' p p' b q1 q2 q1' q2' e1 e2
 ·obtain ⟨p,q1,q2⟩:=hF0 _ _ h hl
  exact hM.nF i p b q1 q2 hb
 ·obtain ⟨p,q1,q2⟩:=hF0 _ _ h hl
  exact hM.lt i p b q1 q2 hb
 ·have hi:i<4:=(kQ3.1 h).1
  match i,hi with
  | 0,_=>exact ⟨_,rfl⟩
  | 1,_=>exact ⟨_,rfl⟩
  | 2,_=>exact ⟨_,rfl⟩
  | 3,_=>exact ⟨_,rfl⟩
 ·rcases at4 hx with ⟨rfl,e⟩ | ⟨rfl,e⟩ | ⟨rfl,e⟩ | ⟨rfl,e⟩ <;> cases e
 ·have hi:i<4:=(kQ3.1 h).1
  obtain ⟨p,q1,q2⟩:=fC (dl:=dl) (sk:=sk) (dc:=dc) i hi;rw [h] at q1;cases q1;exact q2
 ·obtain ⟨p,q1,q2⟩:=hF0 _ _ h hl
  exact .inr ⟨i,p,q1,q2,hb⟩
 ·have:p=(mb,.map #[] 0):=by simpa [iO] using hp
  subst this;exact ⟨hmh,fun h=>hM.nF 3 _ mb rfl rfl hmb h,.inl rfl⟩

theorem bBt{ea:Array MapEntry}{cl:Nat}{L:List Ent}(hM0:aU Tp C (lX dl sk dc) w)(hmb:C.ι 3=some mb)(r1:cX C.F w (.sl sk.length (sk.flatten.map aA)) v1)(r2:cX C.F w (.sl dc.length (dc.flatten.map aA)) v2)
  (hI:aLv dl sk dc v1 v2 C w mb dc.reverse W C' ea cl L) :
  ∃ C5,aU Tp C5 (yO dl sk dc) W∧Fr C (lX dl sk dc) w C5 (yO dl sk dc) W∧∀ D,W.heap[D]? = some (.deferred (some []))→w.heap.size≤D→¬ C5.F D:=by
 obtain ⟨⟨hFI,hM,fI⟩,hok,hls,hborn,hhas⟩:=hI;obtain ⟨F5,hF5⟩:∃ F5:Nat→Prop,F5=fun c=>C'.F c∨∃ p∈iO mb ea cl L,p.1=c:=⟨_,rfl⟩
 have toF:∀ c,C.F c→F5 c:=fun c hc=>by rw [hF5];exact .inl ((hFI c).2 hc)
 have toF':∀ c,C'.F c→F5 c:=fun c hc=>by rw [hF5];exact .inl hc
 have same:∀ c,C.F c→W.heap[c]? = w.heap[c]? := fun c hc=>fI.keep c (hM0.Fs c hc) fun i o h hl he=>hM0.nF i o c h hl he hc
 have ιC:∀ i,i<4→C'.ι i=C.ι i:=fun i hi=>by
  obtain ⟨o,h1,_⟩:=fC (dl:=dl) (sk:=sk) (dc:=dc) i hi;exact (fI.ids i o h1).2.1
 have live1:∀ {i:Nat} {o:AO},(yO dl sk dc)[i]? = some (some o)→o.live=true→(i=0∨i=1∨i=2)∧∃ o',(xD dl v1 v2 mb (atF dc.reverse))[i]? = some (some o')∧o'.live=true:=fun {i o} h hl=>by
  rcases at4 h with ⟨rfl,e⟩ | ⟨rfl,e⟩ | ⟨rfl,e⟩ | ⟨rfl,e⟩
  ·exact ⟨.inl rfl,_,rfl,rfl⟩
  ·exact ⟨.inr (.inl rfl),_,rfl,rfl⟩
  ·exact ⟨.inr (.inr rfl),_,rfl,rfl⟩
  ·cases e;cases hl
 have lt3:∀ i c,i<3→C.ι i=some c→c<w.heap.size∧c≠mb:=fun i c hi hc=>by
  obtain ⟨o,h1,h2⟩:=fC (dl:=dl) (sk:=sk) (dc:=dc) i (by omega)
  refine ⟨hM0.lt i o c h1 h2 hc,fun e => ?_⟩
  subst e;have:=hM0.inj i 3 o _ c h1 h2 rfl rfl hc hmb;omega
 refine ⟨⟨C'.ι,C'.κ,F5,[]⟩,⟨fun i ty n cs h => ?_,fun i ty cs h => ?_,fun i es cl h => ?_,fun i i' o o' b h1 l1 h2 l2 e1 e2 => ?_,fun i o b h hl hb hf => ?_,fun c hc => ?_,fun i o b h hl hb => ?_⟩,
  ⟨fI.os,fI.tape,fI.out,fI.size,fI.keep,fun i o h=>⟨?_,(fI.ids i o h).2⟩,fun i o h ty n cs hx => ?_,fun i o h o' hx hl => ?_,fun i o b h hl hb => ?_,toF,fun c hc => ?_⟩,fun D hD hDs hf => ?_⟩
 ·rcases at4 h with ⟨rfl,e⟩ | ⟨rfl,e⟩ | ⟨rfl,e⟩ | ⟨rfl,e⟩ <;> cases e
 ·rcases at4 h with ⟨rfl,e⟩ | ⟨rfl,e⟩ | ⟨rfl,e⟩ | ⟨rfl,e⟩
  ·cases e
   obtain ⟨b,arr,r0,r1,r2,r3,r4⟩:=hM.box 0 _ _ rfl;refine ⟨b,arr,r0,r1,r2,fun j hj => ?_,r4⟩
   have:=r3 j hj;have hj0:j=0:=by simp at hj;exact hj
   subst hj0;simp only [List.getElem_cons_zero] at this ⊢
   cases this with
   | ptr _ _ _ h0 ha h hp =>
    refine .ptr _ _ _ h0 ⟨_,rfl⟩ (fun o ho hl => ?_) hp
    exact h _ rfl rfl
  ·cases e
   obtain ⟨b,arr,s0,s1,s2,s3,s4⟩:=hM.box 1 _ _ rfl;have opq:∀ (j:Nat) (v:Value),Rep C' (xD dl v1 v2 mb (atF dc.reverse)) W (.p (.v v)) (arr.getD j undef)→arr.getD j undef=v:=fun j v h=>by
    generalize arr.getD j undef=u at h
    cases h with
    | p _ _ h=>cases h;rfl
   refine ⟨b,arr,s0,s1,s2,fun j hj => ?_,s4⟩
   match j,hj with
   | 0,_ =>
    have:=s3 0 (by simp)
    cases this with
    | p _ _ h=>exact .p _ _ (h.anyF rfl)
   | 1,_ =>
    show Rep _ _ W (.p (.sl sk.length (sk.flatten.map aA))) (arr.getD 1 undef);rw [opq 1 v1 (s3 1 (by simp))]
    exact .p _ _ (r1.mono toF same)
   | 2,_ =>
    show Rep _ _ W (.p (.sl dc.length (dc.flatten.map aA))) (arr.getD 2 undef);rw [opq 2 v2 (s3 2 (by simp))]
    exact .p _ _ (r2.mono toF same)
   | 3,_ =>
    have:=s3 3 (by simp)
    simp only [List.getElem_cons_succ,List.getElem_cons_zero] at this ⊢
    cases this with
    | mp _ _ h0 ha h =>
     refine .mp _ _ h0 ⟨_,rfl⟩ fun o ho hl => ?_
     exact h _ rfl rfl
   | 4,_ =>
    show Rep _ _ W (.p (.mp (abE dc))) (arr.getD 4 undef);rw [opq 4 (.map (some mb)) (s3 4 (by simp))]
    exact .p _ _ (aQt hok hls hborn fun p hp=>⟨(hhas p hp).1,by rw [hF5];exact .inr ⟨p,hp,rfl⟩⟩)
  ·cases e
  ·cases e
 ·rcases at4 h with ⟨rfl,e⟩ | ⟨rfl,e⟩ | ⟨rfl,e⟩ | ⟨rfl,e⟩
  ·cases e
  ·cases e
  ·cases e
   obtain ⟨b,arr,s0,s1,s2,s3⟩:=hM.mp 2 _ _ rfl;refine ⟨b,arr,s0,s1,s2,fun j hj => ?_⟩
   obtain ⟨en,t1,t2,t3,t4⟩:=s3 j hj;exact ⟨en,t1,t2,t3,t4.mono toF' (fun _ _=>rfl)⟩
  ·cases e
 ·obtain ⟨_,p,q1,q2⟩:=live1 h1 l1
  obtain ⟨_,p',q1',q2'⟩:=live1 h2 l2;exact hM.inj i i' p p' b q1 q2 q1' q2' e1 e2
 ·obtain ⟨hi,p,q1,q2⟩:=live1 h hl
  rw [hF5] at hf
  rcases hf with hf | ⟨p0,hp0,hpb⟩
  ·exact hM.nF i p b q1 q2 hb hf
  ·have hb':C.ι i=some b:=by rw [← ιC i (by omega)];exact hb
   obtain ⟨g1,g2⟩:=lt3 i b (by omega) hb'
   rcases (hhas p0 hp0).2.2 with h5 | h5 <;> omega
 ·rw [hF5] at hc
  rcases hc with hc | ⟨p0,hp0,rfl⟩
  ·exact hM.Fs c hc
  ·exact cK (hhas p0 hp0).1
 ·obtain ⟨_,p,q1,q2⟩:=live1 h hl
  exact hM.lt i p b q1 q2 hb
 ·have hi:i<4:=(kQ3.1 h).1
  match i,hi with
  | 0,_=>exact ⟨_,rfl⟩
  | 1,_=>exact ⟨_,rfl⟩
  | 2,_=>exact ⟨_,rfl⟩
  | 3,_=>exact ⟨_,rfl⟩
 ·rcases at4 hx with ⟨rfl,e⟩ | ⟨rfl,e⟩ | ⟨rfl,e⟩ | ⟨rfl,e⟩ <;> cases e
 ·have hi:i<4:=(kQ3.1 h).1
  obtain ⟨p,q1,q2⟩:=fC (dl:=dl) (sk:=sk) (dc:=dc) i hi;rw [h] at q1;cases q1;exact q2
 ·obtain ⟨_,p,q1,q2⟩:=live1 h hl
  exact fI.new i p b q1 q2 hb
 ·rw [hF5] at hc
  rcases hc with hc | ⟨p0,hp0,rfl⟩
  ·exact .inl ((hFI c).1 hc)
  ·rcases (hhas p0 hp0).2.2 with h5 | h5
   ·exact .inr (.inr ⟨3,_,rfl,rfl,by rw [h5];exact hmb⟩)
   ·exact .inr (.inl h5)
 ·rw [hF5] at hf
  rcases hf with hf | ⟨p0,hp0,rfl⟩
  ·have:=hM0.Fs D ((hFI D).1 hf);omega
  ·have h6:=(hhas p0 hp0).1
   rw [hD] at h6
   rcases dL.1 hp0 with rfl | ⟨y,_,rfl⟩ <;> cases h6
end
theorem info44q:∃ i,Tryz.prog.info? 44=some i∧i.zero=some zD6∧i.size=6:=by
 obtain ⟨i,h1,h2,h3,_⟩:=info_parts info44z;exact ⟨i,h1,h2,h3⟩
theorem aLs(W:World):(Instr.alloc 44 true (.tuple #[])).run Tp W = .ok (.pointer (some ⟨W.heap.size,0,none⟩)) (W.alloc (.cells zD6.cells 44)):=rfl
set_option maxHeartbeats 1000000 in
theorem bIa(dl:Int)(sk dc:Lqq)(hd:cE dc):aC Tp 0 (sub (cd Tryz.f82) [1,1,1,1,0,1,0]) ⟨fr 57 [(6,(.ptr 0 0)),(27,aLw dc)],lX dl sk dc⟩ .normal ⟨fr 57 [(6,(.ptr 0 0))],yO dl sk dc⟩:=by
 intro C0 M0 w0 a w hk hs ro hro n;have hro':ro=none:=hro.resolve_right (by rw [aTx];simp [nrf])
 subst hro';rw [aTx];refine aCe (n:=3) ?_;obtain ⟨C,hSl,hM,hF,hD⟩:=hs;obtain ⟨mb,arr0,hmb,hmh,hz,_⟩:=hM.mp 3 _ _ rfl;obtain rfl:arr0 = #[]:=Array.eq_empty_of_size_eq_zero (by simpa using hz)
 obtain ⟨bd,ad,i1,hdh,hs1,hr1,ho1⟩:=hM.box 1 _ _ rfl;have r1:cX C.F w (.sl sk.length (sk.flatten.map aA)) (ad.getD 1 undef):=by
  have:=hr1 1 (by simp)
  cases this with
  | p _ _ h=>exact h
 have r2:cX C.F w (.sl dc.length (dc.flatten.map aA)) (ad.getD 2 undef):=by
  have:=hr1 2 (by simp)
  cases this with
  | p _ _ h=>exact h
 have hmblt:mb<w.heap.size:=hM.lt 3 _ mb rfl rfl hmb;have hsz:a.tmps.size=57:=hSl.size;have h6:=hSl.at (i:=6) (x := .ptr 0 0) rfl
 obtain ⟨lb,Sp,hu,hseq⟩:=bBx dc hd.ud hd.len C (lX dl sk dc) w _ (hSl.at (i:=27) (x:=aLw dc) rfl) hM.Fs
 have actT:∀ (x:Bk dc) (b:Nat),((({ tmps:=(a.tmps.setIfInBounds 28 (.int .i64 (x.1:Nat))).setIfInBounds 29 (.agg (vals6 (mX dc x.1))),defers:=[] }:Act).put (some 8) (.pointer (some ⟨b,0,none⟩))).tmps.size=57) ∧
   (({ tmps:=(a.tmps.setIfInBounds 28 (.int .i64 (x.1:Nat))).setIfInBounds 29 (.agg (vals6 (mX dc x.1))),defers:=[] }:Act).put (some 8) (.pointer (some ⟨b,0,none⟩))).tmps.getD 6 undef=a.tmps.getD 6 undef ∧
   (({ tmps:=(a.tmps.setIfInBounds 28 (.int .i64 (x.1:Nat))).setIfInBounds 29 (.agg (vals6 (mX dc x.1))),defers:=[] }:Act).put (some 8) (.pointer (some ⟨b,0,none⟩))).tmps.getD 8 undef = .pointer (some ⟨b,0,none⟩):=fun x b=>by
  refine ⟨by simp [Act.put,hsz],?_,?_⟩
  ·simp [Act.put,kQ2]
  ·simp [Act.put,kQ2,hsz]
 refine wpIn_rangeFunc_ownH (F:=Fen none) (n:=3) rfl (by omega) (gf:=187) (lb:=lb) hu trivial (fun args w=>rfl) hseq (fun h k=>h.trans k)
  (fun W l o o' hl h1 h2 h3=>⟨by simp,fun b hb=>(grownBy_putObj' W l o').block b (kQ8 (hM.Fs b hb) (gO hl (Nat.le_of_lt (kQ9.1 h1).1))) (fun e=>by cases e;have:=hM.Fs _ hb;omega)⟩)
  (Below.refl _ _) (fun _=>rfl)
  (fun pre W=>∃ C' ea cl L,aLv dl sk dc (ad.getD 1 undef) (ad.getD 2 undef) C w mb (pre.map fun x=>mX dc x.1) W C' ea cl L) (fun _ _ _=>False)
  (fun pre X Y row hs hg hr=>by obtain ⟨C',ea,cl,L,h⟩:=hs;exact ⟨C',ea,cl,L,h.own hM hmb hg hr⟩) (fun _ _ _ _ _ hs _ _=>hs)
  ⟨C,#[],0,[],bBs (arr0 := #[]) hM hmb hmh i1 hdh rfl rfl⟩
  (fun x a' W=>∃ b,a'=(({ tmps:=(a.tmps.setIfInBounds 28 (.int .i64 (x.1:Nat))).setIfInBounds 29 (.agg (vals6 (mX dc x.1))),defers:=[] }:Act).put (some 8) (.pointer (some ⟨b,0,none⟩)))∧w.heap.size≤b∧W.heap[b]? = some (.cells (vsL (mX dc x.1)).toArray 44 (0,0))∧∀ es cl,W.heap[mb]? = some (.map es cl)→∀ y∈es.toList,y.val.ownBlock≠some b)
  (fun x a' _ X Y row hs hg hr => ?hAx) ?assign ?body ?done ?stop
 case hAx =>
  obtain ⟨b,h1,h2,h3,h4⟩:=hs;have hno:∀ c,c<X.heap.size→(c<w.heap.size∨lW X c)→Y.heap[c]? = X.heap[c]? := fun c hc hd=>hg.block c hc (fun e=>by
   obtain ⟨q1,o,q2,q3⟩:=hr c e.symm
   rcases hd with hd | hd
   ·omega
   ·exact jV q2 q3 hd)
  refine ⟨b,h1,h2,(hno b (cK h3) (.inr (fN h3))).trans h3,fun es cl h => ?_⟩
  by_cases hlt:mb<X.heap.size
  ·rw [hno mb hlt (.inl hmblt)] at h
   exact h4 es cl h
  ·exact absurd (kQ8 (cK h3) (eG _)) (by omega)
 case assign =>
  intro l pre x W K hI hK;rw [zip2'];obtain ⟨C',ea,cl,L,hI⟩:=hI;have hx:=aQs hd _ (aCn x);have hev:vals6 (mX dc x.1)=(vsL (mX dc x.1)).toArray:=rfl;refine wpIn_region_lit (wpListIn_plain rfl fun K' hK' => ?_)
  unfold Oper.wpIn;refine ⟨fun f _=>trivial,?_⟩
  rw [Oper.semAt_plain _ _ _ (by intro c hc';cases hc')]
  have e1 : ∀ ρ : Operand → Value, (execOp ρ { dst := some 8, op := .alloc 44, type := 0, pos := "jury.go:198", after := #[], guard := none }).run Tp W = .ok (.value (.pointer (some ⟨W.heap.size, 0, none⟩))) (W.alloc (.cells zD6.cells 44)) := fun ρ => by
   unfold execOp;dsimp only;rw [Sem.run_bind,aLs,Result.andThen_ok,Sem.run_pure]
  rw [e1];refine hK' _ _ (wpListIn_plain rfl fun K2 hK2 => ?_)
  unfold Oper.wpIn;refine ⟨fun f _=>trivial,?_⟩
  rw [Oper.semAt_plain _ _ _ (by intro c hc';cases hc')]
  obtain ⟨i44,hi,hz0,hz1⟩:=info44q;have e8:(({ tmps:=(a.tmps.setIfInBounds 28 (.int .i64 (x.1:Nat))).setIfInBounds 29 (.agg (vals6 (mX dc x.1))),defers:=[] }:Act).put (some 8) (.pointer (some ⟨W.heap.size,0,none⟩))).eval (.tmp 8) = .pointer (some ⟨W.heap.size,0,none⟩):=(actT x W.heap.size).2.2;have e29:(({ tmps:=(a.tmps.setIfInBounds 28 (.int .i64 (x.1:Nat))).setIfInBounds 29 (.agg (vals6 (mX dc x.1))),defers:=[] }:Act).put (some 8) (.pointer (some ⟨W.heap.size,0,none⟩))).eval (.tmp 29) = .agg (vals6 (mX dc x.1)):=by
   simp [Act.eval,Act.put,kQ2,hsz]
  have e2:=run_storeAt_new (P:=Tp) W 44 zD6.cells (vals6 (mX dc x.1)) (by rw [hi];simp [hz1,hev,vsL,hx.len]) (by simp [hev,vsL,hx.len];rfl) (by
   rw [Array.all_eq_true];intro i h;simp [hev,vsL];rfl)
  have e3 : ∀ ρ : Operand → Value, ρ (.tmp 8) = .pointer (some ⟨W.heap.size, 0, none⟩) → ρ (.tmp 29) = .agg (vals6 (mX dc x.1)) → (execOp ρ { dst := none, op := .store 44 (.tmp 8) (.tmp 29), type := 0, pos := "jury.go:198", after := #[{ on := 0, ground := .data }, { on := 0, ground := .phase }], guard := none }).run Tp (W.alloc (.cells zD6.cells 44)) = .ok .skip (W.alloc (.cells (vals6 (mX dc x.1)) 44)) := fun ρ h1 h2 => by
   unfold execOp;dsimp only;rw [h1,h2,Sem.run_bind,e2,Result.andThen_ok,Sem.run_pure]
  rw [e3 _ e8 e29];refine hK2 _ _ (wpListIn_nil (hK _ _ ?_ ?_ ?_ ?_))
  ·exact ⟨by simp,fun k o _ hk _=>((jS W _).2.2 k (cK hk)).trans hk⟩
  ·exact ⟨by simp,fun b hb=>(jS W _).2.2 b (kQ8 (hM.Fs b hb) hI.inv.2.2.size)⟩
  ·exact ⟨C',ea,cl,L,hI.own hM hmb (World.grownBy_alloc W _ none) (fun r e=>by cases e)⟩
  ·refine ⟨W.heap.size,rfl,hI.inv.2.2.size,(jS W _).2.1,fun es2 cl2 h y hy hyb => ?_⟩
   have hm1:=(hI.has (mb,.map ea cl) (by simp [iO])).1
   rw [(jS W _).2.2 mb (cK hm1),hm1] at h
   cases h;obtain ⟨e,he,_,hv⟩:=hI.ok.e1 y hy;rw [hv] at hyb
   have hb2:e.b=W.heap.size:=by
    have:Ent.val e = .slice (some ⟨e.b,0,none⟩) e.l.length e.cap:=rfl;rw [this] at hyb
    exact Option.some.inj hyb
   have:=cK (hI.has e.blk (dL.2 (.inr ⟨e,he,rfl⟩))).1;simp only [Ent.blk] at this
   omega
 case body =>
  rintro l pre x a' W hl _ ⟨C',ea,cl,L,hI⟩ ⟨b,rfl,hb1,hb2,hb3⟩ hlt;obtain ⟨t1,t2,t3⟩:=actT x b;refine wpIn_mono (bId (l:=l) (n:=1) (aQs hd _ (aCn x)) (fun y hy=>by
   obtain ⟨z,_,rfl⟩:=fF.1 hy;exact aQs hd _ (aCn z)) (by rw [fL];have:=hd.len;omega) hM hmb hI t1 rfl (by rw [t2];exact h6) t3 hb1 hb2 hb3) ?_
  rintro e a2 W4 ⟨rfl,hK,hG,h⟩;exact ⟨hK,hG,by simpa [iY] using h⟩
 case done =>
  intro D xs W hD' hSx hI hDm;obtain ⟨C',ea,cl,L,hI⟩:=hI;rw [bIb hSx] at hI
  obtain ⟨C5,hM5,f5,hF5⟩:=bBt hM hmb r1 r2 hI;have hnp:aNg (yO dl sk dc):=fun i o h=>by rcases at4 h with ⟨rfl,e⟩ | ⟨rfl,e⟩ | ⟨rfl,e⟩ | ⟨rfl,e⟩ <;> cases e <;> rfl
  refine ⟨rfl,C5,?_,hM5,hF.trans f5,?_⟩
  ·have s0:eT C5 (yO dl sk dc) W (List.replicate 57 .any) a.tmps:=⟨by simpa using hsz,fun j hj=>by rw [List.getElem_replicate];exact .any _⟩
   refine ⟨hsz.trans rfl,fun j hj => ?_⟩
   have hfr:fr 57 [(6,.ptr 0 0)]=(List.replicate 57 AV.any).set 6 (.ptr 0 0):=rfl;simp only [hfr] at hj ⊢
   rw [wS]
   split
   ·rename_i e;subst e;exact h6.mono (hM.le f5)
   ·exact s0.rep j (by simpa using hj)
  ·obtain ⟨⟨l,e1,e2,e3⟩,hR⟩:=hD.fr hM (fun i to ti sz L h=>by have:=hnp _ _ h;cases this) f5
   obtain ⟨⟨l',e1',_,e3'⟩,_⟩:=hD;have hll:l=l':=by
    have:=e1.symm.trans e1';exact (List.map_inj_right (fun x y h=>by simpa [mark] using h)).1 this
   refine ⟨⟨D::l,by rw [e1];rfl,List.nodup_cons.2 ⟨fun hin => ?_,e2⟩,fun D' hD2 => ?_⟩,hR⟩
   ·rw [hll] at hin
    have:=(kQ9.1 (e3' D hin).1).1;omega
   ·rcases kM.1 hD2 with rfl | hin
    ·exact ⟨hDm,gO hF.size hD',hF5 _ hDm hD'⟩
    ·exact e3 D' hin
 case stop =>
  intro D c pre W _ _ h _;exact h.elim
end KV
end Go.Proofs
end
namespace Go.Proofs
namespace KV
section
variable {dl:Int}{sk dc:Lqq}

theorem bZs(dc:Lqq){base:Nat}:FV Tp 147 [.p (fS dc)] base (aLw dc) []:=bZu
theorem dQ(h:cM dl sk dc):cE (aB dc):=by
 have hm:∀ x,x∈aB dc↔x∈dc:=fun x=>(dY dc).mem_iff
 refine ⟨mM h.ud,by rw [fM];have:=h.len2;omega,fun x hx=>h.hdc x ((hm x).1 hx),?_,fun x hx=>h.ord x ((hm x).1 hx)⟩
 have hn:(aK (aB dc) 0).Nodup:=((dY dc).map _).nodup_iff.2 h.nd;have hs:=mF dc;unfold aK at hn
 rw [List.Nodup,List.pairwise_map] at hn
 exact (hs.and hn).imp fun ⟨h1,h2⟩=>by
  show _<_;unfold dN;omega
theorem bMz(h0:cM dl sk dc)(h1:cE (aB dc)){base:Nat}:FV Tp 82 [(.p (.agg (bB dl sk dc)))] base (.tup [(.rp [(aA dl),(.sl ((aB sk).length) ((aB sk).flatten.map aA)),(.sl ((aB dc).length) ((aB dc).flatten.map aA)),(.mp (atF (aB dc).reverse)),(.mp (abE (aB dc)))] 0),(pI 0)]) []:=by
 exact FV.fin Tryz.func82 rfl (o:=[.c (.tup [(.p (.agg (bB dl (aB sk) (aB dc)))),(pI 0)]) [],bF,.c (.fn 187 [] [(.rp [(.sl ((aB dc).length) ((aB dc).flatten.map aA))] 0)]) [],.k 1 ⟨(rng [(0,6),(7,20),(28,29)]),[5,4,2,3],[],[]⟩ .normal ⟨fr 57 [(6,(.ptr 0 0))],yO dl (aB sk) (aB dc)⟩,.g 1 ⟨[],[0],[2,1],[]⟩]) (l:=[aC Tp 0 (sub (cd Tryz.f82) [1,1,1,1,0,1,0]) ⟨fr 57 [(6,(.ptr 0 0)),(27,aLw (aB dc))],lX dl (aB sk) (aB dc)⟩ .normal ⟨fr 57 [(6,(.ptr 0 0))],yO dl (aB sk) (aB dc)⟩,_,((0:Int) != (0:Int))=false,_]) (by kernel_rfl) (gc (bIa dl (aB sk) (aB dc) h1) (gc (fk 6 (bZs (aB dc)) rfl) (gc (by first | decide | simp) (gc (fk 1 (bSo dl sk dc h0) rfl) gn))))
theorem bNa{r0:Int}(h0:uni 2 sk)(h1:uni 6 dc)(h2:(dC dl sk dc)≠0)(er0:r0=(dC dl sk dc)){base:Nat}:FV Tp 82 [(.p (.agg (bB dl sk dc)))] base (.tup [(.p (.v (.pointer none))),(pI r0)]) []:=by
 subst er0;exact FV.fin Tryz.func82 rfl (o:=[.c (.tup [(.p (.agg [(aA 0),bI,bI])),(pI (dC dl sk dc))]) [],bT]) (l:=[_,_]) (by kernel_rfl) (gc (iD h2) (gc (fk 1 (bLc dl sk dc h0 h1 h2) rfl) gn))
abbrev aI(dl:Int)(sk dc:Lqq):List PV:=[aA dl,.sl sk.length (sk.flatten.map aA),.sl dc.length (dc.flatten.map aA),.mp (atF dc.reverse),.mp (abE dc)]
theorem gW(dl:Int)(sk dc:Lqq)(h:cM dl sk dc){base:Nat}:FV Tp 82 [.p (.agg (bB dl sk dc))] base (.tup [.rp (aI dl (aB sk) (aB dc)) 0,.p (aA 0)]) []:=bMz h (dQ h)
theorem vQ(dl:Int)(sk dc:Lqq)(us:uni 2 sk)(ud:uni 6 dc)(h:dC dl sk dc≠0){base:Nat}:FV Tp 82 [.p (.agg (bB dl sk dc))] base (.tup [.p (.v (.pointer none)),.p (aA (dC dl sk dc))]) []:=bNa us ud h rfl
end
section
section
variable {P:Program} {k:Nat} {b:Code} {β:Type}
theorem aE.ex{e:Ex}(S:Nat→β→St)(R:β→St)(Inv:Nat→β→Prop)(he:e ≠ .normal)(n:Nat)
  (hs:∀ (i:Nat) (acc:β),i<n→Inv i acc→∃ acc',Inv (i+1) acc'∧aC P k b (S i acc) .normal (S (i+1) acc'))
  (hx:∀ acc,Inv n acc→aC P k b (S n acc) e (R acc)) {acc:β} (h0:Inv 0 acc):∃ acc',Inv n acc'∧aE P k b (S 0 acc) e (R acc'):=by
 have key:∀ (d i:Nat) (acc:β),i+d=n→Inv i acc→∃ acc',Inv n acc'∧aE P k b (S i acc) e (R acc'):=by
  intro d
  induction d with
  | zero =>
   intro i acc hi h;obtain rfl:i=n:=by omega
   exact ⟨acc,h,.exit (hx acc h) he⟩
  | succ d ih =>
   intro i acc hi h;obtain ⟨acc1,h1,c1⟩:=hs i acc (by omega) h
   obtain ⟨acc2,h2,c2⟩:=ih (i+1) acc1 (by omega) h1
   exact ⟨acc2,h2,.step c1 c2⟩
 exact key n 0 acc (by omega) h0
theorem aE.exF{e1 e2:Ex}(S:Nat→β→St)(R1:Nat→β→St)(R2:β→St)(Inv:β→Prop)(h1:e1 ≠ .normal)(h2:e2 ≠ .normal)(p:Nat→Bool)(n:Nat)
  (hs:∀ (i:Nat) (acc:β),i<n→Inv acc→p i=false→∃ acc',Inv acc'∧aC P k b (S i acc) .normal (S (i+1) acc'))
  (hq:∀ (i:Nat) (acc:β),i<n→Inv acc→p i=true→∃ acc',Inv acc'∧aC P k b (S i acc) e1 (R1 i acc'))
  (hx:∀ acc,Inv acc→aC P k b (S n acc) e2 (R2 acc)) {acc:β} (h0:Inv acc) :
  (∃ i acc',i<n∧p i=true∧(∀ j,j<i→p j=false)∧Inv acc'∧aE P k b (S 0 acc) e1 (R1 i acc'))∨((∀ j,j<n→p j=false)∧∃ acc',Inv acc'∧aE P k b (S 0 acc) e2 (R2 acc')):=by
 have key:∀ (d i:Nat) (acc:β),i+d=n→Inv acc→(∀ j,j<i→p j=false)→(∃ i' acc',i'<n∧p i'=true∧(∀ j,j<i'→p j=false)∧Inv acc'∧aE P k b (S i acc) e1 (R1 i' acc'))∨((∀ j,j<n→p j=false)∧∃ acc',Inv acc'∧aE P k b (S i acc) e2 (R2 acc')):=by
  intro d
  induction d with
  | zero =>
   intro i acc hi h hj;obtain rfl:i=n:=by omega
   exact .inr ⟨hj,acc,h,.exit (hx acc h) h2⟩
  | succ d ih =>
   intro i acc hi h hj;cases hp:p i with
   | true =>
    obtain ⟨acc1,q1,c1⟩:=hq i acc (by omega) h hp
    exact .inl ⟨i,acc1,by omega,hp,hj,q1,.exit c1 h1⟩
   | false =>
    obtain ⟨acc1,q1,c1⟩:=hs i acc (by omega) h hp
    rcases ih (i+1) acc1 (by omega) q1 (fun j hj2=>by
     rcases Nat.lt_or_ge j i with h3 | h3
     ·exact hj j h3
     ·obtain rfl:j=i:=by omega
      exact hp) with ⟨i',acc',r1,r2,r3,r4,r5⟩ | ⟨r1,acc',r2,r3⟩
    ·exact .inl ⟨i',acc',r1,r2,r3,r4,.step c1 r5⟩
    ·exact .inr ⟨r1,acc',r2,.step c1 r3⟩
 exact key n 0 acc (by omega) h0 (fun j hj=>absurd hj (aOl _))
end
def aF(T:Lqb):List (Value × PV):=T.map fun p=>(.int .i64 p.1,blP p.2)
theorem bBr(T:Lqb)(n:Int)(b:Bool):aF (T++[(n,b)])=aF T++[(.int .i64 n,blP b)]:=by simp [aF]
structure cF (dl:Int) (oc:List Int) (dc:Lqq) (T:Lqb):Prop where
 nd:(T.map (·.1)).Nodup
 ok:∀ p∈T,∃ x∈dc,dN x=p.1∧cD dl oc dc x=p.2
section
variable {dl:Int} {oc:List Int} {dc:Lqq} {T:Lqb}
theorem cF.nil:cF dl oc dc []:=⟨by simp,fun p hp=>by cases hp⟩
theorem eN(h:cE dc){x:List Int}(hx:x∈dc):1≤dN x∧dN x≤9999:=(gU.1 (h.rng x hx)).1
theorem zQ(h:cE dc){x y:List Int}(hx:x∈dc)(hy:y∈dc)(e:dN x=dN y):x=y:=by
 obtain ⟨i,hi,rfl⟩:=List.mem_iff_getElem.1 hx;obtain ⟨j,hj,rfl⟩:=List.mem_iff_getElem.1 hy;have hu:=List.pairwise_iff_getElem.1 h.up
 rcases Nat.lt_trichotomy i j with q | q | q
 ·have:=hu i j hi hj q;omega
 ·subst q;rfl
 ·have:=hu j i hj hi q;omega
theorem cF.keys(h:cF dl oc dc T)(hd:cE dc){n:Int}(hn:1≤n∧n≤9999):cS .i64 (aF T) (.int .i64 n):=by
 refine ⟨fun e he => ?_,oA (by omega),?_⟩
 ·obtain ⟨p,hp,rfl⟩:=fF.1 he
  obtain ⟨x,hx,e1,_⟩:=h.ok p hp;have:=eN hd hx;exact oA (by omega)
 ·have:(aF T).map (fun e=>iX e.1)=T.map (·.1):=by
   unfold aF;rw [tZ];rfl
  rw [this];exact h.nd
theorem aTw{n:Int}:dV (aF T) (.int .i64 n)=T.any fun p=>p.1 == n:=by
 unfold dV aF;rw [List.any_map]
 congr 1
theorem bHz{n:Int}:fJ (aF T) (.int .i64 n)=(T.find? fun p=>p.1 == n).map fun p=>blP p.2:=by
 unfold fJ aF
 induction T with
 | nil=>rfl
 | cons p T ih =>
  rw [iM,List.find?_cons,List.find?_cons];have e:(decide (iX ((Value.int IntKind.i64 p.1,blP p.2):Value × PV).1=iX (Value.int IntKind.i64 n)))=(p.1 == n):=by
   show decide (p.1=n)=(p.1 == n);rw [Bool.eq_iff_iff];simp
  rw [e];cases p.1 == n with
  | true=>rfl
  | false=>exact ih
theorem cF.look(h:cF dl oc dc T)(hd:cE dc){x:List Int}(hx:x∈dc)(hh:dV (aF T) (.int .i64 (dN x))=true):fJ (aF T) (.int .i64 (dN x))=some (blP (cD dl oc dc x)):=by
 rw [aTw] at hh
 rw [bHz];cases hf:T.find? fun p=>p.1 == dN x with
 | none =>
  obtain ⟨p,h1,h2⟩:=List.any_eq_true.1 hh;exact absurd h2 (aBm.1 hf p h1)
 | some p =>
  have h1:=vJ hf;have h2:p.1=dN x:=by simpa using aWk hf
  obtain ⟨y,hy,e1,e2⟩:=h.ok p h1;rw [zQ hd hy hx (e1.trans h2)] at e2
  rw [e2];rfl
theorem cF.again(h:cF dl oc dc T)(hd:cE dc){x:List Int}(hx:x∈dc):pE (aF T) (.int .i64 (dN x)) (blP (cD dl oc dc x))=aF T:=by
 have:∀ T':Lqb,(∀ p∈T',∃ x∈dc,dN x=p.1∧cD dl oc dc x=p.2)→pE (aF T') (.int .i64 (dN x)) (blP (cD dl oc dc x))=aF T':=by
  intro T'
  induction T' with
  | nil=>intro _;rfl
  | cons p T' ih =>
   intro hp;show (if p.1=dN x then ((.int .i64 (dN x),blP (cD dl oc dc x))::aF T':List (Value × PV)) else (.int .i64 p.1,blP p.2)::pE (aF T') (.int .i64 (dN x)) (blP (cD dl oc dc x)))=(.int .i64 p.1,blP p.2)::aF T'
   by_cases e:p.1=dN x
   ·rw [if_pos e]
    obtain ⟨y,hy,e1,e2⟩:=hp p (mC ..);rw [zQ hd hy hx (e1.trans e)] at e2
    rw [e,e2]
   ·rw [if_neg e,ih fun q hq=>hp q (kQ7 _ hq)]
 exact this T h.ok
theorem cF.put(h:cF dl oc dc T){x:List Int}(hx:x∈dc)(hh:dV (aF T) (.int .i64 (dN x))=false):cF dl oc dc (T++[(dN x,cD dl oc dc x)]):=by
 rw [aTw] at hh
 refine ⟨?_,fun p hp => ?_⟩
 ·rw [iY,List.nodup_append]
  refine ⟨h.nd,by simp,fun a ha b hb e => ?_⟩
  simp only [iM,List.map_nil,List.mem_singleton] at hb
  obtain ⟨p,hp,rfl⟩:=fF.1 ha;have:=List.any_eq_false.1 hh p hp;rw [e,hb] at this
  simp at this
 ·rcases nV.1 hp with hp | hp
  ·exact h.ok p hp
  ·rw [List.mem_singleton.1 hp]
   exact ⟨x,hx,rfl,rfl⟩
end
end
section
variable {dl:Int}{sk dc:Lqq}

noncomputable abbrev fO:Code:=sub (cd Tryz.f154) [1,1,1,0,1,0,0]
noncomputable abbrev gT:Code:=sub (cd Tryz.f153) [1,0,1,0,0]
abbrev oU(dl:Int)(sk dc:Lqq):AV := .rp (aI dl sk dc) 0
abbrev dG(dl:Int)(sk dc:Lqq)(ov:PV)(T:Lqb):Mem:=[some (.box 130 [(oU dl sk dc)]),some (.box 33 [(.p ov)]),some (.box 139 (kVL 4 5 0 2 6 1)),some (.mp (aF T) T.length),some (.box 207 [(.mp 3)]),some (.box 124 [(.fn 146 [(oU dl sk dc)] [])]),some (.box 209 [(.fn 153 [] [(.ptr 0 0),(.ptr 2 0)])])]
abbrev fP:AV:=(.agg (kVL 4 5 0 2 6 1))
abbrev vB0(dl:Int)(sk dc:Lqq):AO:=.box 130 [.rp (aI dl sk dc) 0]
abbrev vB2:AO:=.box 139 (kVL 4 5 0 2 6 1)
abbrev vB5(dl:Int)(sk dc:Lqq):AO:=.box 124 [.fn 146 [.rp (aI dl sk dc) 0] []]
abbrev vB6:AO:=.box 209 [(.fn 153 [] [(.ptr 0 0),(.ptr 2 0)])]
abbrev vU(dl:Int)(sk dc:Lqq)(ov:PV)(T:Lqb):Upd:=[(0,vB0 dl sk dc),(1,.box 33 [.p ov]),(2,vB2),(3,.mp (aF T) T.length),(4,.box 207 [.mp 3]),(5,vB5 dl sk dc),(6,vB6)]
abbrev qL(dl:Int)(sk dc:Lqq)(ov:PV)(x:List Int)(b:Bool)(T T2:Lqb):Prop:=FMM Tp 154 [.p (.agg (x.map aA)),.ptr 4 0,.ptr 5 0,.ptr 0 0,.ptr 2 0] (dG dl sk dc ov T) (pB b) (dG dl sk dc ov T2)
abbrev bVx(g:Nat)(dl:Int)(sk dc:Lqq)(ov:PV)(x z:List Int)(b:Bool)(T T2:Lqb):Prop:=FMM Tp 153 [.p (.agg (x.map aA)),.fn g [] [],.ptr 0 0,.ptr 2 0] (dG dl sk dc ov T) (.tup [.p (.agg (z.map aA)),.p (blP b)]) (dG dl sk dc ov T2)
abbrev aLr(dl:Int)(sk dc:Lqq)(ov:PV)(x z:List Int)(b:Bool)(T T2:Lqb):Prop:=FMM Tp 156 [.p (.agg (x.map aA)),.ptr 6 0] (dG dl sk dc ov T) (.tup [.p (.agg (z.map aA)),.p (blP b)]) (dG dl sk dc ov T2)
abbrev bVy(dl:Int)(sk dc:Lqq)(ov:PV)(x z:List Int)(b:Bool)(T T2:Lqb):Prop:=FMM Tp 158 [.p (.agg (x.map aA)),.ptr 6 0] (dG dl sk dc ov T) (.tup [.p (.agg (z.map aA)),.p (blP b)]) (dG dl sk dc ov T2)
abbrev bMp(dl:Int)(sk dc:Lqq)(ov:PV)(x:List Int)(b:Bool)(T T2:Lqb):Prop:=FMM Tp 157 [.p (.agg (x.map aA)),.ptr 2 0,.ptr 1 0] (dG dl sk dc ov T) (pB b) (dG dl sk dc ov T2)
abbrev xA(dl:Int)(sk dc:Lqq)(ov:PV)(x:List Int)(m:Int)(T T2:Lqb):Prop:=FMM Tp 160 [.p (.agg (x.map aA)),.ptr 2 0] (dG dl sk dc ov T) (pI m) (dG dl sk dc ov T2)
theorem bMq{k:Int}(h0:k=8){base:Nat}:FV Tp 155 [(pI k)] base (pB true) []:=by
 exact FV.fin Tryz.func155 rfl (o:=[bT,bT,bT]) (l:=[_,_,_]) (by kernel_rfl) (g3c (cC h0) gn)
theorem bMr{k:Int}{r0:Bool}(h0:k≠8)(er0:r0=(k == (9:Int))){base:Nat}:FV Tp 155 [(pI k)] base (pB r0) []:=by
 subst er0;exact FV.fin Tryz.func155 rfl (o:=[bF,bF,bF]) (l:=[_,_,_]) (by kernel_rfl) (g3c (bE h0) gn)
theorem bMs{k:Int}{r0:Bool}(er0:r0=(k == (6:Int))){base:Nat}:FV Tp 159 [(pI k)] base (pB r0) []:=by
 subst er0;exact FV.fin Tryz.func159 rfl (o:=[]) (l:=[]) (by kernel_rfl) (gn)
theorem bVz{k:Int}(h0:k=4){base:Nat}:FV Tp 148 [(pI k)] base (pB true) []:=by
 exact FV.fin Tryz.func148 rfl (o:=[bT,bT,bT]) (l:=[_,_,_]) (by kernel_rfl) (g3c (cC h0) gn)
theorem bWa{k:Int}{r0:Bool}(h0:k≠4)(er0:r0=(k == (7:Int))){base:Nat}:FV Tp 148 [(pI k)] base (pB r0) []:=by
 subst er0;exact FV.fin Tryz.func148 rfl (o:=[bF,bF,bF]) (l:=[_,_,_]) (by kernel_rfl) (g3c (bE h0) gn)
theorem nS(k:Int){base:Nat}:FV Tp 155 [.p (aA k)] base (pB (cQ k)) []:=by
 by_cases h:k=8
 ·rw [show cQ k=true by simp [cQ,h]];exact bMq h
 ·exact bMr h (by simp [cQ,h])
theorem aIb(k:Int){base:Nat}:FV Tp 159 [.p (aA k)] base (pB (k == 6)) []:=bMs rfl
theorem xB(k:Int){base:Nat}:FV Tp 148 [.p (aA k)] base (pB (eM k)) []:=by
 by_cases h:k=4
 ·rw [show eM k=true by simp [eM,h]];exact bVz h
 ·exact bWa h (by simp [eM,h])
theorem bWb{x0 x1 x2 x3 x4 x5:Int}{r0:Bool}(h0:(eM x1)=true)(er0:r0=(decide (x2 > dl))){base:Nat}:FV Tp 146 [(.rp (aI dl sk dc) 0),(.p (dcE x0 x1 x2 x3 x4 x5))] base (pB r0) []:=by
 subst er0;exact FV.fin Tryz.func146 rfl (o:=[.c (pB (eM x1)) [],bT,bT,bT,bT,bT,bT,bT,.x (aA dl),bT,bT]) (l:=[_,_,(aI dl sk dc)[0]? = some (aA dl),_,_,_,_,_,_,_,_]) (by kernel_rfl) (g2c h0 (gc rfl (g7c h0 (gc (fk 1 (xB x1) rfl) gn))))
theorem bWc{x0 x1 x2 x3 x4 x5:Int}(h0:(eM x1)=false){base:Nat}:FV Tp 146 [(.rp (aI dl sk dc) 0),(.p (dcE x0 x1 x2 x3 x4 x5))] base (pB false) []:=by
 exact FV.fin Tryz.func146 rfl (o:=[.c (pB (eM x1)) [],bF,bF,bF,bF,bF,bF,bF,bF,bF]) (l:=[_,_,_,_,_,_,_,_,_,_]) (by kernel_rfl) (g8c h0 (gc h0 (gc (fk 1 (xB x1) rfl) gn)))
theorem aCm(dl:Int)(sk dc:Lqq)(x0 x1 x2 x3 x4 x5:Int){base:Nat}:FV Tp 146 [oU dl sk dc,.p (.agg [aA x0,aA x1,aA x2,aA x3,aA x4,aA x5])] base (pB (cA dl [x0,x1,x2,x3,x4,x5])) []:=by
 cases h:eM x1 with
 | true=>exact bWb h (by show (eM x1 && decide (dl<x2))=_;rw [h];rfl)
 | false=>rw [show cA dl [x0,x1,x2,x3,x4,x5]=false by show (eM x1 && decide (dl<x2))=_;rw [h];rfl];exact bWc h
abbrev rN(ov:PV)(n:Int)(b:Bool):Prop:=∀ base:Nat,FV Tp 52 [.p ov,.p (aA n)] base (pB b) []
def dE(dl:Int)(sk:Lqq)(dc:Lqq)(ov:PV)(i:Nat)(l:Lqq)(n:Nat)(te:List (Value × PV))(tk:Nat)(c0:Int)(c1:Int)(c2:Int)(c3:Int)(c4:Int)(c5:Int):St:=⟨fr 35 [(1,(.fn 155 [] [])),(3,(.ptr 2 0)),(6,(.ptr 7 0)),(16,(.p (fS l))),(17,(pI (n:Int))),(18,(pI (i:Int)))],[some (vB0 dl sk dc),some (.box 33 [(.p ov)]),some vB2,some (.mp te tk),some (.box 207 [(.mp 3)]),some (vB5 dl sk dc),some vB6,some (.box 44 [(pI c0),(pI c1),(pI c2),(pI c3),(pI c4),(pI c5)])]⟩
theorem bMt{ov:PV}{T:Lqb}{x0 x1 x2 x3 x4 x5:Int}{y0:Lqq}{i'1:Nat}{l'2:Lqq}{n'3:Nat}{t'4:Lqb}{c0'5 c1'6 c2'7 c3'8 c4'9 c5'10:Int}(h0:cS .i64 (abE dc) (.int .i64 x0))(h1:(dV (abE dc) (.int .i64 x0))=true)(h2:fJ (abE dc) (.int .i64 x0)=some (fS y0))(hl3:aE Tp 7 gT (dE dl sk dc ov 0 y0 y0.length (aF T) T.length (0:Int) (0:Int) (0:Int) (0:Int) (0:Int) (0:Int)) (.exit 0) (dE dl sk dc ov i'1 l'2 n'3 (aF t'4) t'4.length c0'5 c1'6 c2'7 c3'8 c4'9 c5'10)):FMM Tp 153 [(.p (dcE x0 x1 x2 x3 x4 x5)),(.fn 155 [] []),(.ptr 0 0),(.ptr 2 0)] (dG dl sk dc ov T) (.tup [(.p (dcE 0 0 0 0 0 0)),(pB false)]) (dG dl sk dc ov t'4):=by
 exact FMM.fin (k:=7) (g:=⟨[],[],[],[]⟩) rfl Tryz.func153 rfl (o:=[.x (.mp (abE dc)),bT,.x (fS y0),.k 1 ⟨(rng [(0,1),(2,1),(4,2),(7,9),(19,15)]),[8],[],[]⟩ (.exit 0) (dE dl sk dc ov i'1 l'2 n'3 (aF t'4) t'4.length c0'5 c1'6 c2'7 c3'8 c4'9 c5'10)]) (l:=[_,_,_,_,(aI dl sk dc)[4]? = some (.mp (abE dc))]) (by kernel_rfl) (gc hl3.code (gc h2 (gc h1 (gc h0 (gc rfl gn)))))
theorem bMu{ov:PV}{T:Lqb}{x0 x1 x2 x3 x4 x5:Int}{y0:Lqq}{i'1:Nat}{l'2:Lqq}{n'3:Nat}{t'4:Lqb}{c0'5 c1'6 c2'7 c3'8 c4'9 c5'10:Int}(h0:cS .i64 (abE dc) (.int .i64 x0))(h1:(dV (abE dc) (.int .i64 x0))=true)(h2:fJ (abE dc) (.int .i64 x0)=some (fS y0))(hl3:aE Tp 7 gT (dE dl sk dc ov 0 y0 y0.length (aF T) T.length (0:Int) (0:Int) (0:Int) (0:Int) (0:Int) (0:Int)) .ret (bG (dE dl sk dc ov i'1 l'2 n'3 (aF t'4) t'4.length c0'5 c1'6 c2'7 c3'8 c4'9 c5'10) [(7,(.kb true))])):FMM Tp 153 [(.p (dcE x0 x1 x2 x3 x4 x5)),(.fn 155 [] []),(.ptr 0 0),(.ptr 2 0)] (dG dl sk dc ov T) (.tup [(.p (dcE c0'5 c1'6 c2'7 c3'8 c4'9 c5'10)),(pB true)]) (dG dl sk dc ov t'4):=by
 exact FMM.fin (k:=7) (g:=⟨[],[],[],[]⟩) rfl Tryz.func153 rfl (o:=[.x (.mp (abE dc)),bT,.x (fS y0),.k 1 ⟨(rng [(0,1),(2,1),(4,2),(7,9),(19,15)]),[8],[],[]⟩ .ret (bG (dE dl sk dc ov i'1 l'2 n'3 (aF t'4) t'4.length c0'5 c1'6 c2'7 c3'8 c4'9 c5'10) [(7,(.kb true))])]) (l:=[_,_,_,_,(aI dl sk dc)[4]? = some (.mp (abE dc))]) (by kernel_rfl) (gc hl3.code (gc h2 (gc h1 (gc h0 (gc rfl gn)))))
theorem bMv{ov:PV}{T:Lqb}{x0 x1 x2 x3 x4 x5:Int}{i'0:Nat}{l'1:Lqq}{n'2:Nat}{t'3:Lqb}{c0'4 c1'5 c2'6 c3'7 c4'8 c5'9:Int}(h0:cS .i64 (abE dc) (.int .i64 x0))(h1:(dV (abE dc) (.int .i64 x0))=false)(hl2:aE Tp 7 gT (dE dl sk dc ov 0 ([]:Lqq) 0 (aF T) T.length (0:Int) (0:Int) (0:Int) (0:Int) (0:Int) (0:Int)) (.exit 0) (dE dl sk dc ov i'0 l'1 n'2 (aF t'3) t'3.length c0'4 c1'5 c2'6 c3'7 c4'8 c5'9)):FMM Tp 153 [(.p (dcE x0 x1 x2 x3 x4 x5)),(.fn 155 [] []),(.ptr 0 0),(.ptr 2 0)] (dG dl sk dc ov T) (.tup [(.p (dcE 0 0 0 0 0 0)),(pB false)]) (dG dl sk dc ov t'3):=by
 exact FMM.fin (k:=7) (g:=⟨[],[],[],[]⟩) rfl Tryz.func153 rfl (o:=[.x (.mp (abE dc)),bF,.k 1 ⟨(rng [(0,1),(2,1),(4,2),(7,9),(19,15)]),[8],[],[(16,99999)]⟩ (.exit 0) (dE dl sk dc ov i'0 l'1 n'2 (aF t'3) t'3.length c0'4 c1'5 c2'6 c3'7 c4'8 c5'9)]) (l:=[_,_,_,(aI dl sk dc)[4]? = some (.mp (abE dc))]) (by kernel_rfl) (gc hl2.code (gc h1 (gc h0 (gc rfl gn))))
theorem aQj{ov:PV}{i:Nat}{l:Lqq}{n:Nat}{t:Lqb}{c0 c1 c2 c3 c4 c5 y100 y101 y102 y103 y104 y105:Int}{b106:Bool}{T107 t':Lqb}(h0:(i:Int)<(n:Int))(h1:l[i]? = some [y100,y101,y102,y103,y104,y105])(h2:uni 6 l)(h3:(cQ y101)=true)(h4:qL dl sk dc ov [y100,y101,y102,y103,y104,y105] b106 t T107)(h5:b106=true)(et'e:aF t'=(aF T107))(et'k:t'.length=T107.length):aC Tp 7 gT (dE dl sk dc ov i l n (aF t) t.length c0 c1 c2 c3 c4 c5) .ret (bG (dE dl sk dc ov i l n (aF t') t'.length y100 y101 y102 y103 y104 y105) [(7,(.kb true))]):=by
 have raw:aC Tp 7 gT (dE dl sk dc ov i l n (aF t) t.length c0 c1 c2 c3 c4 c5) .ret (bG (dE dl sk dc ov i l n (aF T107) T107.length y100 y101 y102 y103 y104 y105) [(7,(.kb true))]):=aC.fin (g:=⟨(rng [(0,1),(2,1),(4,2),(8,8),(19,15)]),[7],[],[]⟩) (o:=[bT,.x (dcE y100 y101 y102 y103 y104 y105),.c (pB (cQ y101)) [],bT,bT,bT,bT,.c (pB b106) (vU dl sk dc ov T107),bT,bT]) (l:=[_,_,FC Tp 154 [(.p (dcE y100 y101 y102 y103 y104 y105)),(.ptr 4 0),(.ptr 5 0),(.ptr 0 0),(.ptr 2 0)] [(4,(.box 207 [(.mp 3)])),(5,(vB5 dl sk dc)),(0,(vB0 dl sk dc)),(2,vB2),(3,(.mp (aF t) t.length)),(6,vB6),(1,(.box 33 [(.p ov)]))] 9 (pB b106) (vU dl sk dc ov T107),_,_,_,_,_,_,_,0≤(i:Int)∧(i:Int)<(l.length:Int)∧(i*6)<(l.flatten.map aA).length,_]) (by kernel_rfl) (gc h5 (gc h3 (gc (FMM.fc (ids:=[0,1,2,3,4,5,6]) h4 (by kernel_rfl)) (g4c h3 (gc (fk 9 (nS y101) rfl) (gc (aL (i:=i) h2 h1) (gc (aW (i:=i) h2 h1) (gc (aV (k:=6) (i:=(i:Int)) (by decide) h2 (kQ1 _) h1) (gc (aQ h0) gn)))))))))
 exact raw.cast (by rw [et'e,et'k])
theorem aQk{ov:PV}{i:Nat}{l:Lqq}{n:Nat}{t:Lqb}{c0 c1 c2 c3 c4 c5 y100 y101 y102 y103 y104 y105:Int}{b106:Bool}{T107:Lqb}{i':Nat}{t':Lqb}(h0:(i:Int)<(n:Int))(h1:l[i]? = some [y100,y101,y102,y103,y104,y105])(h2:uni 6 l)(h3:(cQ y101)=true)(h4:qL dl sk dc ov [y100,y101,y102,y103,y104,y105] b106 t T107)(h5:b106=false)(h6:inR (((i+1):Nat):Int))(ei':i'=(i+1))(et'e:aF t'=(aF T107))(et'k:t'.length=T107.length):aC Tp 7 gT (dE dl sk dc ov i l n (aF t) t.length c0 c1 c2 c3 c4 c5) .normal (dE dl sk dc ov i' l n (aF t') t'.length c0 c1 c2 c3 c4 c5):=by
 subst ei';have raw:aC Tp 7 gT (dE dl sk dc ov i l n (aF t) t.length c0 c1 c2 c3 c4 c5) .normal (dE dl sk dc ov (i+1) l n (aF T107) T107.length c0 c1 c2 c3 c4 c5):=aC.fin (g:=⟨(rng [(0,1),(2,1),(4,2),(7,9),(19,15)]),[7],[],[]⟩) (o:=[bT,.x (dcE y100 y101 y102 y103 y104 y105),.c (pB (cQ y101)) [],bT,bT,bT,bT,.c (pB b106) (vU dl sk dc ov T107),bT,bF]) (l:=[_,_,_,FC Tp 154 [(.p (dcE y100 y101 y102 y103 y104 y105)),(.ptr 4 0),(.ptr 5 0),(.ptr 0 0),(.ptr 2 0)] [(4,(.box 207 [(.mp 3)])),(5,(vB5 dl sk dc)),(0,(vB0 dl sk dc)),(2,vB2),(3,(.mp (aF t) t.length)),(6,vB6),(1,(.box 33 [(.p ov)]))] 9 (pB b106) (vU dl sk dc ov T107),_,_,_,_,_,_,_,0≤(i:Int)∧(i:Int)<(l.length:Int)∧(i*6)<(l.flatten.map aA).length,_]) (by kernel_rfl) (gc h6 (gc h5 (gc h3 (gc (FMM.fc (ids:=[0,1,2,3,4,5,6]) h4 (by kernel_rfl)) (g4c h3 (gc (fk 9 (nS y101) rfl) (gc (aL (i:=i) h2 h1) (gc (aW (i:=i) h2 h1) (gc (aV (k:=6) (i:=(i:Int)) (by decide) h2 (kQ1 _) h1) (gc (aQ h0) gn))))))))))
 exact raw.cast (by rw [et'e,et'k])
theorem aQl{ov:PV}{i:Nat}{l:Lqq}{n:Nat}{t:Lqb}{c0 c1 c2 c3 c4 c5 y100 y101 y102 y103 y104 y105:Int}{i':Nat}(h0:(i:Int)<(n:Int))(h1:l[i]? = some [y100,y101,y102,y103,y104,y105])(h2:uni 6 l)(h3:(cQ y101)=false)(h4:inR (((i+1):Nat):Int))(ei':i'=(i+1)):aC Tp 7 gT (dE dl sk dc ov i l n (aF t) t.length c0 c1 c2 c3 c4 c5) .normal (dE dl sk dc ov i' l n (aF t) t.length c0 c1 c2 c3 c4 c5):=by
 subst ei';exact aC.fin (g:=⟨(rng [(0,1),(2,1),(4,2),(7,9),(19,15)]),[7],[],[]⟩) (o:=[bT,.x (dcE y100 y101 y102 y103 y104 y105),.c (pB (cQ y101)) [],bF,bF,bF,bF,bF]) (l:=[_,_,_,_,_,_,_,_,_,0≤(i:Int)∧(i:Int)<(l.length:Int)∧(i*6)<(l.flatten.map aA).length,_]) (by kernel_rfl) (gc h4 (g5c h3 (gc (fk 9 (nS y101) rfl) (gc (aL (i:=i) h2 h1) (gc (aW (i:=i) h2 h1) (gc (aV (k:=6) (i:=(i:Int)) (by decide) h2 (kQ1 _) h1) (gc (aQ h0) gn)))))))
theorem aQm{ov:PV}{i:Nat}{l:Lqq}{n:Nat}{t:Lqb}{c0 c1 c2 c3 c4 c5:Int}(h0:(n:Int)≤(i:Int)):aC Tp 7 gT (dE dl sk dc ov i l n (aF t) t.length c0 c1 c2 c3 c4 c5) (.exit 0) (dE dl sk dc ov i l n (aF t) t.length c0 c1 c2 c3 c4 c5):=by
 exact aC.fin (g:=⟨(rng [(0,1),(2,1),(4,2),(7,9),(19,15)]),[7],[],[]⟩) (o:=[bF]) (l:=[_]) (by kernel_rfl) (gc (aR h0) gn)
def dF(dl:Int)(sk:Lqq)(dc:Lqq)(ov:PV)(i:Nat)(l:Lqq)(n:Nat)(te:List (Value × PV))(tk:Nat)(c0:Int)(c1:Int)(c2:Int)(c3:Int)(c4:Int)(c5:Int):St:=⟨fr 35 [(1,(.fn 159 [] [])),(3,(.ptr 2 0)),(6,(.ptr 7 0)),(16,(.p (fS l))),(17,(pI (n:Int))),(18,(pI (i:Int)))],[some (vB0 dl sk dc),some (.box 33 [(.p ov)]),some vB2,some (.mp te tk),some (.box 207 [(.mp 3)]),some (vB5 dl sk dc),some vB6,some (.box 44 [(pI c0),(pI c1),(pI c2),(pI c3),(pI c4),(pI c5)])]⟩
theorem bMw{ov:PV}{T:Lqb}{x0 x1 x2 x3 x4 x5:Int}{y0:Lqq}{i'1:Nat}{l'2:Lqq}{n'3:Nat}{t'4:Lqb}{c0'5 c1'6 c2'7 c3'8 c4'9 c5'10:Int}(h0:cS .i64 (abE dc) (.int .i64 x0))(h1:(dV (abE dc) (.int .i64 x0))=true)(h2:fJ (abE dc) (.int .i64 x0)=some (fS y0))(hl3:aE Tp 7 gT (dF dl sk dc ov 0 y0 y0.length (aF T) T.length (0:Int) (0:Int) (0:Int) (0:Int) (0:Int) (0:Int)) (.exit 0) (dF dl sk dc ov i'1 l'2 n'3 (aF t'4) t'4.length c0'5 c1'6 c2'7 c3'8 c4'9 c5'10)):FMM Tp 153 [(.p (dcE x0 x1 x2 x3 x4 x5)),(.fn 159 [] []),(.ptr 0 0),(.ptr 2 0)] (dG dl sk dc ov T) (.tup [(.p (dcE 0 0 0 0 0 0)),(pB false)]) (dG dl sk dc ov t'4):=by
 exact FMM.fin (k:=7) (g:=⟨[],[],[],[]⟩) rfl Tryz.func153 rfl (o:=[.x (.mp (abE dc)),bT,.x (fS y0),.k 1 ⟨(rng [(0,1),(2,1),(4,2),(7,9),(19,15)]),[8],[],[]⟩ (.exit 0) (dF dl sk dc ov i'1 l'2 n'3 (aF t'4) t'4.length c0'5 c1'6 c2'7 c3'8 c4'9 c5'10)]) (l:=[_,_,_,_,(aI dl sk dc)[4]? = some (.mp (abE dc))]) (by kernel_rfl) (gc hl3.code (gc h2 (gc h1 (gc h0 (gc rfl gn)))))
theorem bMx{ov:PV}{T:Lqb}{x0 x1 x2 x3 x4 x5:Int}{y0:Lqq}{i'1:Nat}{l'2:Lqq}{n'3:Nat}{t'4:Lqb}{c0'5 c1'6 c2'7 c3'8 c4'9 c5'10:Int}(h0:cS .i64 (abE dc) (.int .i64 x0))(h1:(dV (abE dc) (.int .i64 x0))=true)(h2:fJ (abE dc) (.int .i64 x0)=some (fS y0))(hl3:aE Tp 7 gT (dF dl sk dc ov 0 y0 y0.length (aF T) T.length (0:Int) (0:Int) (0:Int) (0:Int) (0:Int) (0:Int)) .ret (bG (dF dl sk dc ov i'1 l'2 n'3 (aF t'4) t'4.length c0'5 c1'6 c2'7 c3'8 c4'9 c5'10) [(7,(.kb true))])):FMM Tp 153 [(.p (dcE x0 x1 x2 x3 x4 x5)),(.fn 159 [] []),(.ptr 0 0),(.ptr 2 0)] (dG dl sk dc ov T) (.tup [(.p (dcE c0'5 c1'6 c2'7 c3'8 c4'9 c5'10)),(pB true)]) (dG dl sk dc ov t'4):=by
 exact FMM.fin (k:=7) (g:=⟨[],[],[],[]⟩) rfl Tryz.func153 rfl (o:=[.x (.mp (abE dc)),bT,.x (fS y0),.k 1 ⟨(rng [(0,1),(2,1),(4,2),(7,9),(19,15)]),[8],[],[]⟩ .ret (bG (dF dl sk dc ov i'1 l'2 n'3 (aF t'4) t'4.length c0'5 c1'6 c2'7 c3'8 c4'9 c5'10) [(7,(.kb true))])]) (l:=[_,_,_,_,(aI dl sk dc)[4]? = some (.mp (abE dc))]) (by kernel_rfl) (gc hl3.code (gc h2 (gc h1 (gc h0 (gc rfl gn)))))
theorem bMy{ov:PV}{T:Lqb}{x0 x1 x2 x3 x4 x5:Int}{i'0:Nat}{l'1:Lqq}{n'2:Nat}{t'3:Lqb}{c0'4 c1'5 c2'6 c3'7 c4'8 c5'9:Int}(h0:cS .i64 (abE dc) (.int .i64 x0))(h1:(dV (abE dc) (.int .i64 x0))=false)(hl2:aE Tp 7 gT (dF dl sk dc ov 0 ([]:Lqq) 0 (aF T) T.length (0:Int) (0:Int) (0:Int) (0:Int) (0:Int) (0:Int)) (.exit 0) (dF dl sk dc ov i'0 l'1 n'2 (aF t'3) t'3.length c0'4 c1'5 c2'6 c3'7 c4'8 c5'9)):FMM Tp 153 [(.p (dcE x0 x1 x2 x3 x4 x5)),(.fn 159 [] []),(.ptr 0 0),(.ptr 2 0)] (dG dl sk dc ov T) (.tup [(.p (dcE 0 0 0 0 0 0)),(pB false)]) (dG dl sk dc ov t'3):=by
 exact FMM.fin (k:=7) (g:=⟨[],[],[],[]⟩) rfl Tryz.func153 rfl (o:=[.x (.mp (abE dc)),bF,.k 1 ⟨(rng [(0,1),(2,1),(4,2),(7,9),(19,15)]),[8],[],[(16,99999)]⟩ (.exit 0) (dF dl sk dc ov i'0 l'1 n'2 (aF t'3) t'3.length c0'4 c1'5 c2'6 c3'7 c4'8 c5'9)]) (l:=[_,_,_,(aI dl sk dc)[4]? = some (.mp (abE dc))]) (by kernel_rfl) (gc hl2.code (gc h1 (gc h0 (gc rfl gn))))
theorem aQn{ov:PV}{i:Nat}{l:Lqq}{n:Nat}{t:Lqb}{c0 c1 c2 c3 c4 c5 y100 y101 y102 y103 y104 y105:Int}{b106:Bool}{T107 t':Lqb}(h0:(i:Int)<(n:Int))(h1:l[i]? = some [y100,y101,y102,y103,y104,y105])(h2:uni 6 l)(h3:(y101 == 6)=true)(h4:qL dl sk dc ov [y100,y101,y102,y103,y104,y105] b106 t T107)(h5:b106=true)(et'e:aF t'=(aF T107))(et'k:t'.length=T107.length):aC Tp 7 gT (dF dl sk dc ov i l n (aF t) t.length c0 c1 c2 c3 c4 c5) .ret (bG (dF dl sk dc ov i l n (aF t') t'.length y100 y101 y102 y103 y104 y105) [(7,(.kb true))]):=by
 have raw:aC Tp 7 gT (dF dl sk dc ov i l n (aF t) t.length c0 c1 c2 c3 c4 c5) .ret (bG (dF dl sk dc ov i l n (aF T107) T107.length y100 y101 y102 y103 y104 y105) [(7,(.kb true))]):=aC.fin (g:=⟨(rng [(0,1),(2,1),(4,2),(8,8),(19,15)]),[7],[],[]⟩) (o:=[bT,.x (dcE y100 y101 y102 y103 y104 y105),.c (pB (y101 == 6)) [],bT,bT,bT,bT,.c (pB b106) (vU dl sk dc ov T107),bT,bT]) (l:=[_,_,FC Tp 154 [(.p (dcE y100 y101 y102 y103 y104 y105)),(.ptr 4 0),(.ptr 5 0),(.ptr 0 0),(.ptr 2 0)] [(4,(.box 207 [(.mp 3)])),(5,(vB5 dl sk dc)),(0,(vB0 dl sk dc)),(2,vB2),(3,(.mp (aF t) t.length)),(6,vB6),(1,(.box 33 [(.p ov)]))] 9 (pB b106) (vU dl sk dc ov T107),_,_,_,_,_,_,_,0≤(i:Int)∧(i:Int)<(l.length:Int)∧(i*6)<(l.flatten.map aA).length,_]) (by kernel_rfl) (gc h5 (gc h3 (gc (FMM.fc (ids:=[0,1,2,3,4,5,6]) h4 (by kernel_rfl)) (g4c h3 (gc (fk 9 (aIb y101) rfl) (gc (aL (i:=i) h2 h1) (gc (aW (i:=i) h2 h1) (gc (aV (k:=6) (i:=(i:Int)) (by decide) h2 (kQ1 _) h1) (gc (aQ h0) gn)))))))))
 exact raw.cast (by rw [et'e,et'k])
theorem aQo{ov:PV}{i:Nat}{l:Lqq}{n:Nat}{t:Lqb}{c0 c1 c2 c3 c4 c5 y100 y101 y102 y103 y104 y105:Int}{b106:Bool}{T107:Lqb}{i':Nat}{t':Lqb}(h0:(i:Int)<(n:Int))(h1:l[i]? = some [y100,y101,y102,y103,y104,y105])(h2:uni 6 l)(h3:(y101 == 6)=true)(h4:qL dl sk dc ov [y100,y101,y102,y103,y104,y105] b106 t T107)(h5:b106=false)(h6:inR (((i+1):Nat):Int))(ei':i'=(i+1))(et'e:aF t'=(aF T107))(et'k:t'.length=T107.length):aC Tp 7 gT (dF dl sk dc ov i l n (aF t) t.length c0 c1 c2 c3 c4 c5) .normal (dF dl sk dc ov i' l n (aF t') t'.length c0 c1 c2 c3 c4 c5):=by
 subst ei';have raw:aC Tp 7 gT (dF dl sk dc ov i l n (aF t) t.length c0 c1 c2 c3 c4 c5) .normal (dF dl sk dc ov (i+1) l n (aF T107) T107.length c0 c1 c2 c3 c4 c5):=aC.fin (g:=⟨(rng [(0,1),(2,1),(4,2),(7,9),(19,15)]),[7],[],[]⟩) (o:=[bT,.x (dcE y100 y101 y102 y103 y104 y105),.c (pB (y101 == 6)) [],bT,bT,bT,bT,.c (pB b106) (vU dl sk dc ov T107),bT,bF]) (l:=[_,_,_,FC Tp 154 [(.p (dcE y100 y101 y102 y103 y104 y105)),(.ptr 4 0),(.ptr 5 0),(.ptr 0 0),(.ptr 2 0)] [(4,(.box 207 [(.mp 3)])),(5,(vB5 dl sk dc)),(0,(vB0 dl sk dc)),(2,vB2),(3,(.mp (aF t) t.length)),(6,vB6),(1,(.box 33 [(.p ov)]))] 9 (pB b106) (vU dl sk dc ov T107),_,_,_,_,_,_,_,0≤(i:Int)∧(i:Int)<(l.length:Int)∧(i*6)<(l.flatten.map aA).length,_]) (by kernel_rfl) (gc h6 (gc h5 (gc h3 (gc (FMM.fc (ids:=[0,1,2,3,4,5,6]) h4 (by kernel_rfl)) (g4c h3 (gc (fk 9 (aIb y101) rfl) (gc (aL (i:=i) h2 h1) (gc (aW (i:=i) h2 h1) (gc (aV (k:=6) (i:=(i:Int)) (by decide) h2 (kQ1 _) h1) (gc (aQ h0) gn))))))))))
 exact raw.cast (by rw [et'e,et'k])
theorem aQp{ov:PV}{i:Nat}{l:Lqq}{n:Nat}{t:Lqb}{c0 c1 c2 c3 c4 c5 y100 y101 y102 y103 y104 y105:Int}{i':Nat}(h0:(i:Int)<(n:Int))(h1:l[i]? = some [y100,y101,y102,y103,y104,y105])(h2:uni 6 l)(h3:(y101 == 6)=false)(h4:inR (((i+1):Nat):Int))(ei':i'=(i+1)):aC Tp 7 gT (dF dl sk dc ov i l n (aF t) t.length c0 c1 c2 c3 c4 c5) .normal (dF dl sk dc ov i' l n (aF t) t.length c0 c1 c2 c3 c4 c5):=by
 subst ei';exact aC.fin (g:=⟨(rng [(0,1),(2,1),(4,2),(7,9),(19,15)]),[7],[],[]⟩) (o:=[bT,.x (dcE y100 y101 y102 y103 y104 y105),.c (pB (y101 == 6)) [],bF,bF,bF,bF,bF]) (l:=[_,_,_,_,_,_,_,_,_,0≤(i:Int)∧(i:Int)<(l.length:Int)∧(i*6)<(l.flatten.map aA).length,_]) (by kernel_rfl) (gc h4 (g5c h3 (gc (fk 9 (aIb y101) rfl) (gc (aL (i:=i) h2 h1) (gc (aW (i:=i) h2 h1) (gc (aV (k:=6) (i:=(i:Int)) (by decide) h2 (kQ1 _) h1) (gc (aQ h0) gn)))))))
theorem aQq{ov:PV}{i:Nat}{l:Lqq}{n:Nat}{t:Lqb}{c0 c1 c2 c3 c4 c5:Int}(h0:(n:Int)≤(i:Int)):aC Tp 7 gT (dF dl sk dc ov i l n (aF t) t.length c0 c1 c2 c3 c4 c5) (.exit 0) (dF dl sk dc ov i l n (aF t) t.length c0 c1 c2 c3 c4 c5):=by
 exact aC.fin (g:=⟨(rng [(0,1),(2,1),(4,2),(7,9),(19,15)]),[7],[],[]⟩) (o:=[bF]) (l:=[_]) (by kernel_rfl) (gc (aR h0) gn)
def cB(dl:Int)(sk:Lqq)(dc:Lqq)(ov:PV)(x0:Int)(x1:Int)(x2:Int)(x3:Int)(x4:Int)(x5:Int)(is:Bool)(i:Nat)(l:Lqq)(n:Nat)(te:List (Value × PV))(tk:Nat):St:=⟨fr 79 [(1,(.ptr 4 0)),(4,(.ptr 2 0)),(5,(.ptr 7 0)),(6,(.kb false)),(9,(pB is)),(32,(.p (fS l))),(33,(pI (n:Int))),(34,(pI (i:Int)))],[some (vB0 dl sk dc),some (.box 33 [(.p ov)]),some vB2,some (.mp te tk),some (.box 207 [(.mp 3)]),some (vB5 dl sk dc),some vB6,some (.box 44 [(pI x0),(pI x1),(pI x2),(pI x3),(pI x4),(pI x5)])]⟩
theorem bWd{ov:PV}{T:Lqb}{x0 x1 x2 x3 x4 x5:Int}{y0:Bool}(h0:cS .i64 (aF T) (.int .i64 x0))(h1:(dV (aF T) (.int .i64 x0))=true)(h2:fJ (aF T) (.int .i64 x0)=some (blP y0)):FMM Tp 154 [(.p (dcE x0 x1 x2 x3 x4 x5)),(.ptr 4 0),(.ptr 5 0),(.ptr 0 0),(.ptr 2 0)] (dG dl sk dc ov T) (pB y0) (dG dl sk dc ov T):=by
 exact FMM.fin (k:=7) (g:=⟨[],[],[],[]⟩) rfl Tryz.func154 rfl (o:=[bT,.x (blP y0)]) (l:=[_,_,_]) (by kernel_rfl) (gc h2 (gc h1 (gc h0 gn)))
theorem bWe{ov:PV}{T:Lqb}{x0 x1 x2 x3 x4 x5:Int}{y0:Lqq}{is'1:Bool}{i'2:Nat}{l'3:Lqq}{n'4:Nat}{t'5:Lqb}(h0:cS .i64 (aF T) (.int .i64 x0))(h1:(dV (aF T) (.int .i64 x0))=false)(h2:cS .i64 (abE dc) (.int .i64 x0))(h3:(dV (abE dc) (.int .i64 x0))=true)(h4:fJ (abE dc) (.int .i64 x0)=some (fS y0))(hl5:aE Tp 7 fO (cB dl sk dc ov x0 x1 x2 x3 x4 x5 (!(cA dl [x0,x1,x2,x3,x4,x5])) 0 y0 y0.length (aF T) T.length) (.exit 0) (cB dl sk dc ov x0 x1 x2 x3 x4 x5 is'1 i'2 l'3 n'4 (aF t'5) t'5.length))(h6:cS .i64 (aF t'5) (.int .i64 x0))(h7:(dV (aF t'5) (.int .i64 x0))=true):FMM Tp 154 [(.p (dcE x0 x1 x2 x3 x4 x5)),(.ptr 4 0),(.ptr 5 0),(.ptr 0 0),(.ptr 2 0)] (dG dl sk dc ov T) (pB is'1) [some (vB0 dl sk dc),some (.box 33 [(.p ov)]),some vB2,some (.mp (pE (aF t'5) (.int .i64 x0) (blP is'1)) t'5.length),some (.box 207 [(.mp 3)]),some (vB5 dl sk dc),some vB6]:=by
 exact FMM.fin (k:=7) (g:=⟨[],[],[],[]⟩) rfl Tryz.func154 rfl (o:=[bF,.c (pB (cA dl [x0,x1,x2,x3,x4,x5])) [],.x (.mp (abE dc)),bT,.x (fS y0),.k 1 ⟨(rng [(0,1),(2,2),(7,2),(10,22),(35,39)]),[7],[],[]⟩ (.exit 0) (cB dl sk dc ov x0 x1 x2 x3 x4 x5 is'1 i'2 l'3 n'4 (aF t'5) t'5.length),bT]) (l:=[_,_,_,_,_,_,(aI dl sk dc)[4]? = some (.mp (abE dc)),_,_,_]) (by kernel_rfl) (gc h7 (gc h6 (gc hl5.code (gc h4 (gc h3 (gc h2 (gc rfl (gc (fk 8 (aCm dl sk dc x0 x1 x2 x3 x4 x5) rfl) (gc h1 (gc h0 gn))))))))))
theorem bWf{ov:PV}{T:Lqb}{x0 x1 x2 x3 x4 x5:Int}{y0:Lqq}{is'1:Bool}{i'2:Nat}{l'3:Lqq}{n'4:Nat}{t'5:Lqb}(h0:cS .i64 (aF T) (.int .i64 x0))(h1:(dV (aF T) (.int .i64 x0))=false)(h2:cS .i64 (abE dc) (.int .i64 x0))(h3:(dV (abE dc) (.int .i64 x0))=true)(h4:fJ (abE dc) (.int .i64 x0)=some (fS y0))(hl5:aE Tp 7 fO (cB dl sk dc ov x0 x1 x2 x3 x4 x5 (!(cA dl [x0,x1,x2,x3,x4,x5])) 0 y0 y0.length (aF T) T.length) (.exit 0) (cB dl sk dc ov x0 x1 x2 x3 x4 x5 is'1 i'2 l'3 n'4 (aF t'5) t'5.length))(h6:cS .i64 (aF t'5) (.int .i64 x0))(h7:(dV (aF t'5) (.int .i64 x0))=false):FMM Tp 154 [(.p (dcE x0 x1 x2 x3 x4 x5)),(.ptr 4 0),(.ptr 5 0),(.ptr 0 0),(.ptr 2 0)] (dG dl sk dc ov T) (pB is'1) [some (vB0 dl sk dc),some (.box 33 [(.p ov)]),some vB2,some (.mp ((aF t'5)++[((.int .i64 x0),(blP is'1))]) (t'5.length+1)),some (.box 207 [(.mp 3)]),some (vB5 dl sk dc),some vB6]:=by
 exact FMM.fin (k:=7) (g:=⟨[],[],[],[]⟩) rfl Tryz.func154 rfl (o:=[bF,.c (pB (cA dl [x0,x1,x2,x3,x4,x5])) [],.x (.mp (abE dc)),bT,.x (fS y0),.k 1 ⟨(rng [(0,1),(2,2),(7,2),(10,22),(35,39)]),[7],[],[]⟩ (.exit 0) (cB dl sk dc ov x0 x1 x2 x3 x4 x5 is'1 i'2 l'3 n'4 (aF t'5) t'5.length),bF]) (l:=[_,_,_,_,_,_,(aI dl sk dc)[4]? = some (.mp (abE dc)),_,_,_]) (by kernel_rfl) (gc h7 (gc h6 (gc hl5.code (gc h4 (gc h3 (gc h2 (gc rfl (gc (fk 8 (aCm dl sk dc x0 x1 x2 x3 x4 x5) rfl) (gc h1 (gc h0 gn))))))))))
theorem bWg{ov:PV}{T:Lqb}{x0 x1 x2 x3 x4 x5:Int}{is'0:Bool}{i'1:Nat}{l'2:Lqq}{n'3:Nat}{t'4:Lqb}(h0:cS .i64 (aF T) (.int .i64 x0))(h1:(dV (aF T) (.int .i64 x0))=false)(h2:cS .i64 (abE dc) (.int .i64 x0))(h3:(dV (abE dc) (.int .i64 x0))=false)(hl4:aE Tp 7 fO (cB dl sk dc ov x0 x1 x2 x3 x4 x5 (!(cA dl [x0,x1,x2,x3,x4,x5])) 0 ([]:Lqq) 0 (aF T) T.length) (.exit 0) (cB dl sk dc ov x0 x1 x2 x3 x4 x5 is'0 i'1 l'2 n'3 (aF t'4) t'4.length))(h5:cS .i64 (aF t'4) (.int .i64 x0))(h6:(dV (aF t'4) (.int .i64 x0))=true):FMM Tp 154 [(.p (dcE x0 x1 x2 x3 x4 x5)),(.ptr 4 0),(.ptr 5 0),(.ptr 0 0),(.ptr 2 0)] (dG dl sk dc ov T) (pB is'0) [some (vB0 dl sk dc),some (.box 33 [(.p ov)]),some vB2,some (.mp (pE (aF t'4) (.int .i64 x0) (blP is'0)) t'4.length),some (.box 207 [(.mp 3)]),some (vB5 dl sk dc),some vB6]:=by
 exact FMM.fin (k:=7) (g:=⟨[],[],[],[]⟩) rfl Tryz.func154 rfl (o:=[bF,.c (pB (cA dl [x0,x1,x2,x3,x4,x5])) [],.x (.mp (abE dc)),bF,.k 1 ⟨(rng [(0,1),(2,2),(7,2),(10,22),(35,39)]),[7],[],[(32,99999)]⟩ (.exit 0) (cB dl sk dc ov x0 x1 x2 x3 x4 x5 is'0 i'1 l'2 n'3 (aF t'4) t'4.length),bT]) (l:=[_,_,_,_,_,(aI dl sk dc)[4]? = some (.mp (abE dc)),_,_,_]) (by kernel_rfl) (gc h6 (gc h5 (gc hl4.code (gc h3 (gc h2 (gc rfl (gc (fk 8 (aCm dl sk dc x0 x1 x2 x3 x4 x5) rfl) (gc h1 (gc h0 gn)))))))))
theorem bWh{ov:PV}{T:Lqb}{x0 x1 x2 x3 x4 x5:Int}{is'0:Bool}{i'1:Nat}{l'2:Lqq}{n'3:Nat}{t'4:Lqb}(h0:cS .i64 (aF T) (.int .i64 x0))(h1:(dV (aF T) (.int .i64 x0))=false)(h2:cS .i64 (abE dc) (.int .i64 x0))(h3:(dV (abE dc) (.int .i64 x0))=false)(hl4:aE Tp 7 fO (cB dl sk dc ov x0 x1 x2 x3 x4 x5 (!(cA dl [x0,x1,x2,x3,x4,x5])) 0 ([]:Lqq) 0 (aF T) T.length) (.exit 0) (cB dl sk dc ov x0 x1 x2 x3 x4 x5 is'0 i'1 l'2 n'3 (aF t'4) t'4.length))(h5:cS .i64 (aF t'4) (.int .i64 x0))(h6:(dV (aF t'4) (.int .i64 x0))=false):FMM Tp 154 [(.p (dcE x0 x1 x2 x3 x4 x5)),(.ptr 4 0),(.ptr 5 0),(.ptr 0 0),(.ptr 2 0)] (dG dl sk dc ov T) (pB is'0) [some (vB0 dl sk dc),some (.box 33 [(.p ov)]),some vB2,some (.mp ((aF t'4)++[((.int .i64 x0),(blP is'0))]) (t'4.length+1)),some (.box 207 [(.mp 3)]),some (vB5 dl sk dc),some vB6]:=by
 exact FMM.fin (k:=7) (g:=⟨[],[],[],[]⟩) rfl Tryz.func154 rfl (o:=[bF,.c (pB (cA dl [x0,x1,x2,x3,x4,x5])) [],.x (.mp (abE dc)),bF,.k 1 ⟨(rng [(0,1),(2,2),(7,2),(10,22),(35,39)]),[7],[],[(32,99999)]⟩ (.exit 0) (cB dl sk dc ov x0 x1 x2 x3 x4 x5 is'0 i'1 l'2 n'3 (aF t'4) t'4.length),bF]) (l:=[_,_,_,_,_,(aI dl sk dc)[4]? = some (.mp (abE dc)),_,_,_]) (by kernel_rfl) (gc h6 (gc h5 (gc hl4.code (gc h3 (gc h2 (gc rfl (gc (fk 8 (aCm dl sk dc x0 x1 x2 x3 x4 x5) rfl) (gc h1 (gc h0 gn)))))))))
theorem bBh{ov:PV}{x0 x1 x2 x3 x4 x5:Int}{is:Bool}{i:Nat}{l:Lqq}{n:Nat}{t:Lqb}{y100 y101 y102 y103 y104 y105:Int}{b106:Bool}{T107:Lqb}{i':Nat}{t':Lqb}(h0:(i:Int)<(n:Int))(h1:l[i]? = some [y100,y101,y102,y103,y104,y105])(h2:uni 6 l)(h3:y101=5)(h4:is=true)(h5:qL dl sk dc ov [y100,y101,y102,y103,y104,y105] b106 t T107)(h6:b106=true)(h7:inR (((i+1):Nat):Int))(ei':i'=(i+1))(et'e:aF t'=(aF T107))(et'k:t'.length=T107.length):aC Tp 7 fO (cB dl sk dc ov x0 x1 x2 x3 x4 x5 is i l n (aF t) t.length) .normal (cB dl sk dc ov x0 x1 x2 x3 x4 x5 false i' l n (aF t') t'.length):=by
 subst ei';have raw:aC Tp 7 fO (cB dl sk dc ov x0 x1 x2 x3 x4 x5 is i l n (aF t) t.length) .normal (cB dl sk dc ov x0 x1 x2 x3 x4 x5 false (i+1) l n (aF T107) T107.length):=aC.fin (g:=⟨(rng [(0,1),(2,2),(7,2),(10,22),(35,39)]),[7],[],[(9,0)]⟩) (o:=[bT,.x (dcE y100 y101 y102 y103 y104 y105),bT,bT,bT,bT,bT,bT,bT,bT,.c (pB b106) (vU dl sk dc ov T107),bT,bT,bT,bT,bT,bT,bT,bT,bT,bT,bT]) (l:=[_,_,_,_,_,_,_,_,_,_,_,_,FC Tp 154 [(.p (dcE y100 y101 y102 y103 y104 y105)),(.ptr 4 0),(.ptr 5 0),(.ptr 0 0),(.ptr 2 0)] [(4,(.box 207 [(.mp 3)])),(5,(vB5 dl sk dc)),(0,(vB0 dl sk dc)),(2,vB2),(3,(.mp (aF t) t.length)),(6,vB6),(1,(.box 33 [(.p ov)]))] 9 (pB b106) (vU dl sk dc ov T107),_,_,_,_,_,_,_,_,_,_,0≤(i:Int)∧(i:Int)<(l.length:Int)∧(i*6)<(l.flatten.map aA).length,_]) (by kernel_rfl) (gc h7 (gc h6 (gc (cC h3) (gc h6 (g4c (cC h3) (g4c h6 (gc (FMM.fc (ids:=[0,1,2,3,4,5,6]) h5 (by kernel_rfl)) (g2c h4 (g6c (cC h3) (gc (aL (i:=i) h2 h1) (gc (aW (i:=i) h2 h1) (gc (aV (k:=6) (i:=(i:Int)) (by decide) h2 (kQ1 _) h1) (gc (aQ h0) gn)))))))))))))
 exact raw.cast (by rw [et'e,et'k])
theorem bBi{ov:PV}{x0 x1 x2 x3 x4 x5:Int}{is:Bool}{i:Nat}{l:Lqq}{n:Nat}{t:Lqb}{y100 y101 y102 y103 y104 y105:Int}{b106:Bool}{T107:Lqb}{i':Nat}{t':Lqb}(h0:(i:Int)<(n:Int))(h1:l[i]? = some [y100,y101,y102,y103,y104,y105])(h2:uni 6 l)(h3:y101=5)(h4:is=true)(h5:qL dl sk dc ov [y100,y101,y102,y103,y104,y105] b106 t T107)(h6:b106=false)(h7:inR (((i+1):Nat):Int))(ei':i'=(i+1))(et'e:aF t'=(aF T107))(et'k:t'.length=T107.length):aC Tp 7 fO (cB dl sk dc ov x0 x1 x2 x3 x4 x5 is i l n (aF t) t.length) .normal (cB dl sk dc ov x0 x1 x2 x3 x4 x5 is i' l n (aF t') t'.length):=by
 subst ei';have raw:aC Tp 7 fO (cB dl sk dc ov x0 x1 x2 x3 x4 x5 is i l n (aF t) t.length) .normal (cB dl sk dc ov x0 x1 x2 x3 x4 x5 is (i+1) l n (aF T107) T107.length):=aC.fin (g:=⟨(rng [(0,1),(2,2),(7,2),(10,22),(35,39)]),[7],[],[]⟩) (o:=[bT,.x (dcE y100 y101 y102 y103 y104 y105),bT,bT,bT,bT,bT,bT,bT,bT,.c (pB b106) (vU dl sk dc ov T107),bF,bF,bF,bF,bF,bF]) (l:=[_,_,_,_,_,_,_,FC Tp 154 [(.p (dcE y100 y101 y102 y103 y104 y105)),(.ptr 4 0),(.ptr 5 0),(.ptr 0 0),(.ptr 2 0)] [(4,(.box 207 [(.mp 3)])),(5,(vB5 dl sk dc)),(0,(vB0 dl sk dc)),(2,vB2),(3,(.mp (aF t) t.length)),(6,vB6),(1,(.box 33 [(.p ov)]))] 9 (pB b106) (vU dl sk dc ov T107),_,_,_,_,_,_,_,_,_,_,0≤(i:Int)∧(i:Int)<(l.length:Int)∧(i*6)<(l.flatten.map aA).length,_]) (by kernel_rfl) (gc h7 (g6c h6 (gc (FMM.fc (ids:=[0,1,2,3,4,5,6]) h5 (by kernel_rfl)) (g2c h4 (g6c (cC h3) (gc (aL (i:=i) h2 h1) (gc (aW (i:=i) h2 h1) (gc (aV (k:=6) (i:=(i:Int)) (by decide) h2 (kQ1 _) h1) (gc (aQ h0) gn)))))))))
 exact raw.cast (by rw [et'e,et'k])
theorem bBj{ov:PV}{x0 x1 x2 x3 x4 x5:Int}{is:Bool}{i:Nat}{l:Lqq}{n:Nat}{t:Lqb}{y100 y101 y102 y103 y104 y105:Int}{i':Nat}(h0:(i:Int)<(n:Int))(h1:l[i]? = some [y100,y101,y102,y103,y104,y105])(h2:uni 6 l)(h3:y101=5)(h4:is=false)(h5:inR (((i+1):Nat):Int))(ei':i'=(i+1)):aC Tp 7 fO (cB dl sk dc ov x0 x1 x2 x3 x4 x5 is i l n (aF t) t.length) .normal (cB dl sk dc ov x0 x1 x2 x3 x4 x5 is i' l n (aF t) t.length):=by
 subst ei';exact aC.fin (g:=⟨(rng [(0,1),(2,2),(7,2),(10,22),(35,39)]),[7],[],[]⟩) (o:=[bT,.x (dcE y100 y101 y102 y103 y104 y105),bT,bT,bT,bT,bT,bT,bF,bF]) (l:=[_,_,_,_,_,_,_,_,_,_,_,0≤(i:Int)∧(i:Int)<(l.length:Int)∧(i*6)<(l.flatten.map aA).length,_]) (by kernel_rfl) (gc h5 (g2c h4 (g6c (cC h3) (gc (aL (i:=i) h2 h1) (gc (aW (i:=i) h2 h1) (gc (aV (k:=6) (i:=(i:Int)) (by decide) h2 (kQ1 _) h1) (gc (aQ h0) gn)))))))
theorem bBk{ov:PV}{x0 x1 x2 x3 x4 x5:Int}{is:Bool}{i:Nat}{l:Lqq}{n:Nat}{t:Lqb}{y100 y101 y102 y103 y104 y105:Int}{b106:Bool}{T107:Lqb}{b108:Bool}{T109:Lqb}{i':Nat}{t':Lqb}(h0:(i:Int)<(n:Int))(h1:l[i]? = some [y100,y101,y102,y103,y104,y105])(h2:uni 6 l)(h3:y101≠5)(h4:y101=7)(h5:is=true)(h6:(cQ x1)=false)(h7:qL dl sk dc ov [y100,y101,y102,y103,y104,y105] b106 t T107)(h8:b106=true)(h9:bMp dl sk dc ov [y100,y101,y102,y103,y104,y105] b108 T107 T109)(h10:b108=true)(h11:inR (((i+1):Nat):Int))(ei':i'=(i+1))(et'e:aF t'=(aF T109))(et'k:t'.length=T109.length):aC Tp 7 fO (cB dl sk dc ov x0 x1 x2 x3 x4 x5 is i l n (aF t) t.length) .normal (cB dl sk dc ov x0 x1 x2 x3 x4 x5 false i' l n (aF t') t'.length):=by
 subst ei';have raw:aC Tp 7 fO (cB dl sk dc ov x0 x1 x2 x3 x4 x5 is i l n (aF t) t.length) .normal (cB dl sk dc ov x0 x1 x2 x3 x4 x5 false (i+1) l n (aF T109) T109.length):=aC.fin (g:=⟨(rng [(0,1),(2,2),(7,2),(10,22),(35,39)]),[7],[],[(9,0)]⟩) (o:=[bT,.x (dcE y100 y101 y102 y103 y104 y105),bF,bF,bF,bF,bT,bT,bT,.c (pB (cQ x1)) [],bT,bF,bT,bF,bT,bT,bT,bT,bT,bT,.c (pB b106) (vU dl sk dc ov T107),bT,bT,bT,bT,bT,bF,bF,bF,bF,.c (pB b108) (vU dl sk dc ov T109),bT,bF,bT,bT]) (l:=[_,_,_,_,_,FC Tp 157 [(.p (dcE y100 y101 y102 y103 y104 y105)),(.ptr 2 0),(.ptr 1 0)] [(2,vB2),(1,(.box 33 [(.p ov)])),(4,(.box 207 [(.mp 3)])),(5,(vB5 dl sk dc)),(0,(vB0 dl sk dc)),(6,vB6),(3,(.mp (aF T107) T107.length))] 9 (pB b108) (vU dl sk dc ov T109),_,_,_,_,_,_,_,_,_,FC Tp 154 [(.p (dcE y100 y101 y102 y103 y104 y105)),(.ptr 4 0),(.ptr 5 0),(.ptr 0 0),(.ptr 2 0)] [(4,(.box 207 [(.mp 3)])),(5,(vB5 dl sk dc)),(0,(vB0 dl sk dc)),(2,vB2),(3,(.mp (aF t) t.length)),(6,vB6),(1,(.box 33 [(.p ov)]))] 9 (pB b106) (vU dl sk dc ov T107),_,_,_,_,_,_,_,_,_,_,_,_,_,_,_,_,_,_,_,_,0≤(i:Int)∧(i:Int)<(l.length:Int)∧(i*6)<(l.flatten.map aA).length,_]) (by kernel_rfl) (gc h11 (gc h10 (gc h8 (gc (bE h3) (gc h8 (gc (FMM.fc (ids:=[0,1,2,3,4,5,6]) h9 (by kernel_rfl)) (g4c (bE h3) (g4c h8 (gc (cP h6) (gc (FMM.fc (ids:=[0,1,2,3,4,5,6]) h7 (by kernel_rfl)) (g4c (cP h6) (g2c h5 (gc (bE h3) (gc (cC h4) (gc (bE h3) (gc (cC h4) (gc (fk 9 (nS x1) rfl) (g3c (cC h4) (g4c (bE h3) (gc (aL (i:=i) h2 h1) (gc (aW (i:=i) h2 h1) (gc (aV (k:=6) (i:=(i:Int)) (by decide) h2 (kQ1 _) h1) (gc (aQ h0) gn)))))))))))))))))))))))
 exact raw.cast (by rw [et'e,et'k])
theorem bBl{ov:PV}{x0 x1 x2 x3 x4 x5:Int}{is:Bool}{i:Nat}{l:Lqq}{n:Nat}{t:Lqb}{y100 y101 y102 y103 y104 y105:Int}{b106:Bool}{T107:Lqb}{b108:Bool}{T109:Lqb}{i':Nat}{t':Lqb}(h0:(i:Int)<(n:Int))(h1:l[i]? = some [y100,y101,y102,y103,y104,y105])(h2:uni 6 l)(h3:y101≠5)(h4:y101=7)(h5:is=true)(h6:(cQ x1)=false)(h7:qL dl sk dc ov [y100,y101,y102,y103,y104,y105] b106 t T107)(h8:b106=true)(h9:bMp dl sk dc ov [y100,y101,y102,y103,y104,y105] b108 T107 T109)(h10:b108=false)(h11:inR (((i+1):Nat):Int))(ei':i'=(i+1))(et'e:aF t'=(aF T109))(et'k:t'.length=T109.length):aC Tp 7 fO (cB dl sk dc ov x0 x1 x2 x3 x4 x5 is i l n (aF t) t.length) .normal (cB dl sk dc ov x0 x1 x2 x3 x4 x5 is i' l n (aF t') t'.length):=by
 subst ei';have raw:aC Tp 7 fO (cB dl sk dc ov x0 x1 x2 x3 x4 x5 is i l n (aF t) t.length) .normal (cB dl sk dc ov x0 x1 x2 x3 x4 x5 is (i+1) l n (aF T109) T109.length):=aC.fin (g:=⟨(rng [(0,1),(2,2),(7,2),(10,22),(35,39)]),[7],[],[]⟩) (o:=[bT,.x (dcE y100 y101 y102 y103 y104 y105),bF,bF,bF,bF,bT,bT,bT,.c (pB (cQ x1)) [],bT,bF,bT,bF,bT,bT,bT,bT,bT,bT,.c (pB b106) (vU dl sk dc ov T107),bT,bT,bT,bT,bT,bF,bF,bF,bF,.c (pB b108) (vU dl sk dc ov T109),bT,bF,bT,bF]) (l:=[_,_,_,_,_,FC Tp 157 [(.p (dcE y100 y101 y102 y103 y104 y105)),(.ptr 2 0),(.ptr 1 0)] [(2,vB2),(1,(.box 33 [(.p ov)])),(4,(.box 207 [(.mp 3)])),(5,(vB5 dl sk dc)),(0,(vB0 dl sk dc)),(6,vB6),(3,(.mp (aF T107) T107.length))] 9 (pB b108) (vU dl sk dc ov T109),_,_,_,_,_,_,_,_,_,FC Tp 154 [(.p (dcE y100 y101 y102 y103 y104 y105)),(.ptr 4 0),(.ptr 5 0),(.ptr 0 0),(.ptr 2 0)] [(4,(.box 207 [(.mp 3)])),(5,(vB5 dl sk dc)),(0,(vB0 dl sk dc)),(2,vB2),(3,(.mp (aF t) t.length)),(6,vB6),(1,(.box 33 [(.p ov)]))] 9 (pB b106) (vU dl sk dc ov T107),_,_,_,_,_,_,_,_,_,_,_,_,_,_,_,_,_,_,_,_,0≤(i:Int)∧(i:Int)<(l.length:Int)∧(i*6)<(l.flatten.map aA).length,_]) (by kernel_rfl) (gc h11 (gc h10 (gc h8 (gc (bE h3) (gc h8 (gc (FMM.fc (ids:=[0,1,2,3,4,5,6]) h9 (by kernel_rfl)) (g4c (bE h3) (g4c h8 (gc (cP h6) (gc (FMM.fc (ids:=[0,1,2,3,4,5,6]) h7 (by kernel_rfl)) (g4c (cP h6) (g2c h5 (gc (bE h3) (gc (cC h4) (gc (bE h3) (gc (cC h4) (gc (fk 9 (nS x1) rfl) (g3c (cC h4) (g4c (bE h3) (gc (aL (i:=i) h2 h1) (gc (aW (i:=i) h2 h1) (gc (aV (k:=6) (i:=(i:Int)) (by decide) h2 (kQ1 _) h1) (gc (aQ h0) gn)))))))))))))))))))))))
 exact raw.cast (by rw [et'e,et'k])
theorem bBm{ov:PV}{x0 x1 x2 x3 x4 x5:Int}{is:Bool}{i:Nat}{l:Lqq}{n:Nat}{t:Lqb}{y100 y101 y102 y103 y104 y105:Int}{b106:Bool}{T107:Lqb}{i':Nat}{t':Lqb}(h0:(i:Int)<(n:Int))(h1:l[i]? = some [y100,y101,y102,y103,y104,y105])(h2:uni 6 l)(h3:y101≠5)(h4:y101=7)(h5:is=true)(h6:(cQ x1)=false)(h7:qL dl sk dc ov [y100,y101,y102,y103,y104,y105] b106 t T107)(h8:b106=false)(h9:inR (((i+1):Nat):Int))(ei':i'=(i+1))(et'e:aF t'=(aF T107))(et'k:t'.length=T107.length):aC Tp 7 fO (cB dl sk dc ov x0 x1 x2 x3 x4 x5 is i l n (aF t) t.length) .normal (cB dl sk dc ov x0 x1 x2 x3 x4 x5 is i' l n (aF t') t'.length):=by
 subst ei';have raw:aC Tp 7 fO (cB dl sk dc ov x0 x1 x2 x3 x4 x5 is i l n (aF t) t.length) .normal (cB dl sk dc ov x0 x1 x2 x3 x4 x5 is (i+1) l n (aF T107) T107.length):=aC.fin (g:=⟨(rng [(0,1),(2,2),(7,2),(10,22),(35,39)]),[7],[],[]⟩) (o:=[bT,.x (dcE y100 y101 y102 y103 y104 y105),bF,bF,bF,bF,bT,bT,bT,.c (pB (cQ x1)) [],bT,bF,bT,bF,bT,bT,bT,bT,bT,bT,.c (pB b106) (vU dl sk dc ov T107),bT,bF,bF,bF,bF,bF,bF]) (l:=[_,_,_,_,_,_,_,_,FC Tp 154 [(.p (dcE y100 y101 y102 y103 y104 y105)),(.ptr 4 0),(.ptr 5 0),(.ptr 0 0),(.ptr 2 0)] [(4,(.box 207 [(.mp 3)])),(5,(vB5 dl sk dc)),(0,(vB0 dl sk dc)),(2,vB2),(3,(.mp (aF t) t.length)),(6,vB6),(1,(.box 33 [(.p ov)]))] 9 (pB b106) (vU dl sk dc ov T107),_,_,_,_,_,_,_,_,_,_,_,_,_,_,_,_,_,_,_,_,0≤(i:Int)∧(i:Int)<(l.length:Int)∧(i*6)<(l.flatten.map aA).length,_]) (by kernel_rfl) (gc h9 (g6c h8 (gc (cP h6) (gc (FMM.fc (ids:=[0,1,2,3,4,5,6]) h7 (by kernel_rfl)) (g4c (cP h6) (g2c h5 (gc (bE h3) (gc (cC h4) (gc (bE h3) (gc (cC h4) (gc (fk 9 (nS x1) rfl) (g3c (cC h4) (g4c (bE h3) (gc (aL (i:=i) h2 h1) (gc (aW (i:=i) h2 h1) (gc (aV (k:=6) (i:=(i:Int)) (by decide) h2 (kQ1 _) h1) (gc (aQ h0) gn)))))))))))))))))
 exact raw.cast (by rw [et'e,et'k])
theorem bBn{ov:PV}{x0 x1 x2 x3 x4 x5:Int}{is:Bool}{i:Nat}{l:Lqq}{n:Nat}{t:Lqb}{y100 y101 y102 y103 y104 y105:Int}{i':Nat}(h0:(i:Int)<(n:Int))(h1:l[i]? = some [y100,y101,y102,y103,y104,y105])(h2:uni 6 l)(h3:y101≠5)(h4:y101=7)(h5:is=true)(h6:(cQ x1)=true)(h7:inR (((i+1):Nat):Int))(ei':i'=(i+1)):aC Tp 7 fO (cB dl sk dc ov x0 x1 x2 x3 x4 x5 is i l n (aF t) t.length) .normal (cB dl sk dc ov x0 x1 x2 x3 x4 x5 is i' l n (aF t) t.length):=by
 subst ei';exact aC.fin (g:=⟨(rng [(0,1),(2,2),(7,2),(10,22),(35,39)]),[7],[],[]⟩) (o:=[bT,.x (dcE y100 y101 y102 y103 y104 y105),bF,bF,bF,bF,bT,bT,bT,.c (pB (cQ x1)) [],bT,bF,bT,bF,bT,bT,bF,bF,bF,bF,bF]) (l:=[_,_,_,_,_,_,_,_,_,_,_,_,_,_,_,_,_,_,_,_,_,_,0≤(i:Int)∧(i:Int)<(l.length:Int)∧(i*6)<(l.flatten.map aA).length,_]) (by kernel_rfl) (gc h7 (g5c (bA h6) (g2c h5 (gc (bE h3) (gc (cC h4) (gc (bE h3) (gc (cC h4) (gc (fk 9 (nS x1) rfl) (g3c (cC h4) (g4c (bE h3) (gc (aL (i:=i) h2 h1) (gc (aW (i:=i) h2 h1) (gc (aV (k:=6) (i:=(i:Int)) (by decide) h2 (kQ1 _) h1) (gc (aQ h0) gn))))))))))))))
theorem bBo{ov:PV}{x0 x1 x2 x3 x4 x5:Int}{is:Bool}{i:Nat}{l:Lqq}{n:Nat}{t:Lqb}{y100 y101 y102 y103 y104 y105:Int}{i':Nat}(h0:(i:Int)<(n:Int))(h1:l[i]? = some [y100,y101,y102,y103,y104,y105])(h2:uni 6 l)(h3:y101≠5)(h4:y101=7)(h5:is=false)(h6:inR (((i+1):Nat):Int))(ei':i'=(i+1)):aC Tp 7 fO (cB dl sk dc ov x0 x1 x2 x3 x4 x5 is i l n (aF t) t.length) .normal (cB dl sk dc ov x0 x1 x2 x3 x4 x5 is i' l n (aF t) t.length):=by
 subst ei';exact aC.fin (g:=⟨(rng [(0,1),(2,2),(7,2),(10,22),(35,39)]),[7],[],[]⟩) (o:=[bT,.x (dcE y100 y101 y102 y103 y104 y105),bF,bF,bF,bF,bT,bT,bT,.c (pB (cQ x1)) [],bT,bF,bT,bF,bF,bF]) (l:=[_,_,_,_,_,_,_,_,_,_,_,_,_,_,_,_,_,0≤(i:Int)∧(i:Int)<(l.length:Int)∧(i*6)<(l.flatten.map aA).length,_]) (by kernel_rfl) (gc h6 (g2c h5 (gc (bE h3) (gc (cC h4) (gc (bE h3) (gc (cC h4) (gc (fk 9 (nS x1) rfl) (g3c (cC h4) (g4c (bE h3) (gc (aL (i:=i) h2 h1) (gc (aW (i:=i) h2 h1) (gc (aV (k:=6) (i:=(i:Int)) (by decide) h2 (kQ1 _) h1) (gc (aQ h0) gn)))))))))))))
theorem bBp{ov:PV}{x0 x1 x2 x3 x4 x5:Int}{is:Bool}{i:Nat}{l:Lqq}{n:Nat}{t:Lqb}{y100 y101 y102 y103 y104 y105:Int}{i':Nat}(h0:(i:Int)<(n:Int))(h1:l[i]? = some [y100,y101,y102,y103,y104,y105])(h2:uni 6 l)(h3:y101≠5)(h4:y101≠7)(h5:is=true)(h6:inR (((i+1):Nat):Int))(ei':i'=(i+1)):aC Tp 7 fO (cB dl sk dc ov x0 x1 x2 x3 x4 x5 is i l n (aF t) t.length) .normal (cB dl sk dc ov x0 x1 x2 x3 x4 x5 is i' l n (aF t) t.length):=by
 subst ei';exact aC.fin (g:=⟨(rng [(0,1),(2,2),(7,2),(10,22),(35,39)]),[7],[],[]⟩) (o:=[bT,.x (dcE y100 y101 y102 y103 y104 y105),bF,bF,bF,bF,bF,bF,bF,bF,bF,bF,bF,bT,bT]) (l:=[_,_,_,_,_,_,_,_,_,_,_,_,_,_,_,_,0≤(i:Int)∧(i:Int)<(l.length:Int)∧(i*6)<(l.flatten.map aA).length,_]) (by kernel_rfl) (gc h6 (g2c h5 (gc (bE h3) (gc (bE h4) (gc (bE h3) (g4c (bE h4) (g4c (bE h3) (gc (aL (i:=i) h2 h1) (gc (aW (i:=i) h2 h1) (gc (aV (k:=6) (i:=(i:Int)) (by decide) h2 (kQ1 _) h1) (gc (aQ h0) gn)))))))))))
theorem bBq{ov:PV}{x0 x1 x2 x3 x4 x5:Int}{is:Bool}{i:Nat}{l:Lqq}{n:Nat}{t:Lqb}{y100 y101 y102 y103 y104 y105:Int}{i':Nat}(h0:(i:Int)<(n:Int))(h1:l[i]? = some [y100,y101,y102,y103,y104,y105])(h2:uni 6 l)(h3:y101≠5)(h4:y101≠7)(h5:is=false)(h6:inR (((i+1):Nat):Int))(ei':i'=(i+1)):aC Tp 7 fO (cB dl sk dc ov x0 x1 x2 x3 x4 x5 is i l n (aF t) t.length) .normal (cB dl sk dc ov x0 x1 x2 x3 x4 x5 is i' l n (aF t) t.length):=by
 subst ei';exact aC.fin (g:=⟨(rng [(0,1),(2,2),(7,2),(10,22),(35,39)]),[7],[],[]⟩) (o:=[bT,.x (dcE y100 y101 y102 y103 y104 y105),bF,bF,bF,bF,bF,bF,bF,bF,bF,bF,bF,bF,bF]) (l:=[_,_,_,_,_,_,_,_,_,_,_,_,_,_,_,_,0≤(i:Int)∧(i:Int)<(l.length:Int)∧(i*6)<(l.flatten.map aA).length,_]) (by kernel_rfl) (gc h6 (g2c h5 (gc (bE h3) (gc (bE h4) (gc (bE h3) (g4c (bE h4) (g4c (bE h3) (gc (aL (i:=i) h2 h1) (gc (aW (i:=i) h2 h1) (gc (aV (k:=6) (i:=(i:Int)) (by decide) h2 (kQ1 _) h1) (gc (aQ h0) gn)))))))))))
theorem aQr{ov:PV}{x0 x1 x2 x3 x4 x5:Int}{is:Bool}{i:Nat}{l:Lqq}{n:Nat}{t:Lqb}(h0:(n:Int)≤(i:Int)):aC Tp 7 fO (cB dl sk dc ov x0 x1 x2 x3 x4 x5 is i l n (aF t) t.length) (.exit 0) (cB dl sk dc ov x0 x1 x2 x3 x4 x5 is i l n (aF t) t.length):=by
 exact aC.fin (g:=⟨(rng [(0,1),(2,2),(7,2),(10,22),(35,39)]),[7],[],[]⟩) (o:=[bF]) (l:=[_]) (by kernel_rfl) (gc (aR h0) gn)
theorem bHx{ov:PV}{T:Lqb}{x0 x1 x2 x3 x4 x5 z0 z1 z2 z3 z4 z5:Int}{b6:Bool}{T7:Lqb}(h0:bVx 155 dl sk dc ov [x0,x1,x2,x3,x4,x5] [z0,z1,z2,z3,z4,z5] b6 T T7):FMM Tp 156 [(.p (dcE x0 x1 x2 x3 x4 x5)),(.ptr 6 0)] (dG dl sk dc ov T) (.tup [(.p (dcE z0 z1 z2 z3 z4 z5)),(pB b6)]) (dG dl sk dc ov T7):=by
 exact FMM.fin (k:=7) (g:=⟨[],[],[],[]⟩) rfl Tryz.func156 rfl (o:=[.c (.tup [(.p (dcE z0 z1 z2 z3 z4 z5)),(pB b6)]) (vU dl sk dc ov T7)]) (l:=[FC Tp 153 [(.p (dcE x0 x1 x2 x3 x4 x5)),(.fn 155 [] []),(.ptr 0 0),(.ptr 2 0)] [(0,(vB0 dl sk dc)),(2,vB2),(4,(.box 207 [(.mp 3)])),(5,(vB5 dl sk dc)),(6,vB6),(1,(.box 33 [(.p ov)])),(3,(.mp (aF T) T.length))] 9 (.tup [(.p (dcE z0 z1 z2 z3 z4 z5)),(pB b6)]) (vU dl sk dc ov T7)]) (by kernel_rfl) (gc (FMM.fc (ids:=[0,1,2,3,4,5,6]) h0 (by kernel_rfl)) gn)
theorem bHy{ov:PV}{T:Lqb}{x0 x1 x2 x3 x4 x5 z0 z1 z2 z3 z4 z5:Int}{b6:Bool}{T7:Lqb}(h0:bVx 159 dl sk dc ov [x0,x1,x2,x3,x4,x5] [z0,z1,z2,z3,z4,z5] b6 T T7):FMM Tp 158 [(.p (dcE x0 x1 x2 x3 x4 x5)),(.ptr 6 0)] (dG dl sk dc ov T) (.tup [(.p (dcE z0 z1 z2 z3 z4 z5)),(pB b6)]) (dG dl sk dc ov T7):=by
 exact FMM.fin (k:=7) (g:=⟨[],[],[],[]⟩) rfl Tryz.func158 rfl (o:=[.c (.tup [(.p (dcE z0 z1 z2 z3 z4 z5)),(pB b6)]) (vU dl sk dc ov T7)]) (l:=[FC Tp 153 [(.p (dcE x0 x1 x2 x3 x4 x5)),(.fn 159 [] []),(.ptr 0 0),(.ptr 2 0)] [(0,(vB0 dl sk dc)),(2,vB2),(4,(.box 207 [(.mp 3)])),(5,(vB5 dl sk dc)),(6,vB6),(1,(.box 33 [(.p ov)])),(3,(.mp (aF T) T.length))] 9 (.tup [(.p (dcE z0 z1 z2 z3 z4 z5)),(pB b6)]) (vU dl sk dc ov T7)]) (by kernel_rfl) (gc (FMM.fc (ids:=[0,1,2,3,4,5,6]) h0 (by kernel_rfl)) gn)
theorem bWi{ov:PV}{T:Lqb}{x0 x1 x2 x3 x4 x5 z0 z1 z2 z3 z4 z5:Int}{b6:Bool}{T7:Lqb}{r0:Bool}(h0:aLr dl sk dc ov [x0,x1,x2,x3,x4,x5] [z0,z1,z2,z3,z4,z5] b6 T T7)(h1:b6=true)(er0:r0=(z1 == (8:Int))):FMM Tp 157 [(.p (dcE x0 x1 x2 x3 x4 x5)),(.ptr 2 0),(.ptr 1 0)] (dG dl sk dc ov T) (pB r0) (dG dl sk dc ov T7):=by
 subst er0;exact FMM.fin (k:=7) (g:=⟨[],[],[],[]⟩) rfl Tryz.func157 rfl (o:=[.c (.tup [(.p (dcE z0 z1 z2 z3 z4 z5)),(pB b6)]) (vU dl sk dc ov T7),bT]) (l:=[_,FC Tp 156 [(.p (dcE x0 x1 x2 x3 x4 x5)),(.ptr 6 0)] [(6,vB6),(0,(vB0 dl sk dc)),(2,vB2),(4,(.box 207 [(.mp 3)])),(5,(vB5 dl sk dc)),(1,(.box 33 [(.p ov)])),(3,(.mp (aF T) T.length))] 8 (.tup [(.p (dcE z0 z1 z2 z3 z4 z5)),(pB b6)]) (vU dl sk dc ov T7)]) (by kernel_rfl) (gc h1 (gc (FMM.fc (ids:=[0,1,2,3,4,5,6]) h0 (by kernel_rfl)) gn))
theorem bWj{ov:PV}{T:Lqb}{x0 x1 x2 x3 x4 x5 z0 z1 z2 z3 z4 z5:Int}{b6:Bool}{T7:Lqb}{b8:Bool}(h0:aLr dl sk dc ov [x0,x1,x2,x3,x4,x5] [z0,z1,z2,z3,z4,z5] b6 T T7)(h1:b6=false)(h2:rN ov x0 b8):FMM Tp 157 [(.p (dcE x0 x1 x2 x3 x4 x5)),(.ptr 2 0),(.ptr 1 0)] (dG dl sk dc ov T) (pB b8) (dG dl sk dc ov T7):=by
 exact FMM.fin (k:=7) (g:=⟨[],[],[],[]⟩) rfl Tryz.func157 rfl (o:=[.c (.tup [(.p (dcE z0 z1 z2 z3 z4 z5)),(pB b6)]) (vU dl sk dc ov T7),bF,.c (pB b8) []]) (l:=[FC Tp 52 [(.p ov),(pI x0)] [] 9 (pB b8) [],_,FC Tp 156 [(.p (dcE x0 x1 x2 x3 x4 x5)),(.ptr 6 0)] [(6,vB6),(0,(vB0 dl sk dc)),(2,vB2),(4,(.box 207 [(.mp 3)])),(5,(vB5 dl sk dc)),(1,(.box 33 [(.p ov)])),(3,(.mp (aF T) T.length))] 8 (.tup [(.p (dcE z0 z1 z2 z3 z4 z5)),(pB b6)]) (vU dl sk dc ov T7)]) (by kernel_rfl) (gc (FV.fc (h2 _) rfl) (gc h1 (gc (FMM.fc (ids:=[0,1,2,3,4,5,6]) h0 (by kernel_rfl)) gn)))
theorem bWk{ov:PV}{T:Lqb}{x0 x1 x2 x3 x4 x5 z0 z1 z2 z3 z4 z5:Int}{b6:Bool}{T7:Lqb}{m8:Int}{T9:Lqb}(h0:bVy dl sk dc ov [x0,x1,x2,x3,x4,x5] [z0,z1,z2,z3,z4,z5] b6 T T7)(h1:b6=true)(h2:xA dl sk dc ov [z0,z1,z2,z3,z4,z5] m8 T7 T9):FMM Tp 160 [(.p (dcE x0 x1 x2 x3 x4 x5)),(.ptr 2 0)] (dG dl sk dc ov T) (pI m8) (dG dl sk dc ov T9):=by
 exact FMM.fin (k:=7) (g:=⟨[],[],[],[]⟩) rfl Tryz.func160 rfl (o:=[.c (.tup [(.p (dcE z0 z1 z2 z3 z4 z5)),(pB b6)]) (vU dl sk dc ov T7),bT,.c (pI m8) (vU dl sk dc ov T9)]) (l:=[FC Tp 160 [(.p (dcE z0 z1 z2 z3 z4 z5)),(.ptr 2 0)] [(2,vB2),(4,(.box 207 [(.mp 3)])),(5,(vB5 dl sk dc)),(0,(vB0 dl sk dc)),(6,vB6),(1,(.box 33 [(.p ov)])),(3,(.mp (aF T7) T7.length))] 9 (pI m8) (vU dl sk dc ov T9),_,FC Tp 158 [(.p (dcE x0 x1 x2 x3 x4 x5)),(.ptr 6 0)] [(6,vB6),(0,(vB0 dl sk dc)),(2,vB2),(4,(.box 207 [(.mp 3)])),(5,(vB5 dl sk dc)),(1,(.box 33 [(.p ov)])),(3,(.mp (aF T) T.length))] 8 (.tup [(.p (dcE z0 z1 z2 z3 z4 z5)),(pB b6)]) (vU dl sk dc ov T7)]) (by kernel_rfl) (gc (FMM.fc (ids:=[0,1,2,3,4,5,6]) h2 (by kernel_rfl)) (gc h1 (gc (FMM.fc (ids:=[0,1,2,3,4,5,6]) h0 (by kernel_rfl)) gn)))
theorem bWl{ov:PV}{T:Lqb}{x0 x1 x2 x3 x4 x5 z0 z1 z2 z3 z4 z5:Int}{b6:Bool}{T7:Lqb}(h0:bVy dl sk dc ov [x0,x1,x2,x3,x4,x5] [z0,z1,z2,z3,z4,z5] b6 T T7)(h1:b6=false):FMM Tp 160 [(.p (dcE x0 x1 x2 x3 x4 x5)),(.ptr 2 0)] (dG dl sk dc ov T) (pI x4) (dG dl sk dc ov T7):=by
 exact FMM.fin (k:=7) (g:=⟨[],[],[],[]⟩) rfl Tryz.func160 rfl (o:=[.c (.tup [(.p (dcE z0 z1 z2 z3 z4 z5)),(pB b6)]) (vU dl sk dc ov T7),bF]) (l:=[_,FC Tp 158 [(.p (dcE x0 x1 x2 x3 x4 x5)),(.ptr 6 0)] [(6,vB6),(0,(vB0 dl sk dc)),(2,vB2),(4,(.box 207 [(.mp 3)])),(5,(vB5 dl sk dc)),(1,(.box 33 [(.p ov)])),(3,(.mp (aF T) T.length))] 8 (.tup [(.p (dcE z0 z1 z2 z3 z4 z5)),(pB b6)]) (vU dl sk dc ov T7)]) (by kernel_rfl) (gc h1 (gc (FMM.fc (ids:=[0,1,2,3,4,5,6]) h0 (by kernel_rfl)) gn))
theorem sM:FMM Tp 87 [(.rp (aI dl sk dc) 0),(.p bI)] [] fP [some (vB0 dl sk dc),some (.box 33 [(.p bI)]),some vB2,some (.mp [] 0),some (.box 207 [(.mp 3)]),some (vB5 dl sk dc),some vB6]:=by
 exact FMM.fin (k:=0) (g:=⟨[],[0,1,3,4,5,6,7],[],[]⟩) rfl Tryz.func87 rfl (o:=[]) (l:=[]) (by kernel_rfl) (gn)
theorem qA{on:Nat}{ol:List PV}:FMM Tp 87 [(.rp (aI dl sk dc) 0),(.p (.sl on ol))] [] fP [some (vB0 dl sk dc),some (.box 33 [(.p (.sl on ol))]),some vB2,some (.mp [] 0),some (.box 207 [(.mp 3)]),some (vB5 dl sk dc),some vB6]:=by
 exact FMM.fin (k:=0) (g:=⟨[],[0,1,3,4,5,6,7],[],[]⟩) rfl Tryz.func87 rfl (o:=[]) (l:=[]) (by kernel_rfl) (gn)
end
section
section
variable {dc:Lqq}
theorem aHy(h:cE dc){n:Int}(hn:1≤n∧n≤9999):cS .i64 (abE dc) (.int .i64 n):=by
 have ha:=aQd h;refine ⟨fun e he => ?_,oA (by omega),?_⟩
 ·obtain ⟨p,hp,rfl⟩:=fF.1 he
  obtain ⟨q1,q2,q3⟩:=ha.mem p hp;cases hx:p.2 with
  | nil=>exact absurd hx q2
  | cons x r =>
   have:x∈dc.reverse.filter fun x=>dAb x == p.1:=by rw [← q3,hx];exact mC ..
   obtain ⟨h1,h2⟩:=aOm.1 this;have:=kV h x (aBn.1 h1);have h2:dAb x=p.1:=by simpa using h2
   exact oA (by omega)
 ·have:(abE dc).map (fun e=>iX e.1)=(abM dc).map (·.1):=by
   unfold abE;rw [tZ];rfl
  rw [this];exact ha.nd
theorem aHz(h:cE dc){n:Int}(hn:0<n):(dV (abE dc) (.int .i64 n)=true∧fJ (abE dc) (.int .i64 n)=some (.sl (cH dc n).length ((cH dc n).flatten.map aA)))∨(dV (abE dc) (.int .i64 n)=false∧cH dc n=[]):=by
 have ha:=aQd h;have e1:dV (abE dc) (.int .i64 n)=(abM dc).any fun e=>e.1 == n:=by
  unfold dV abE;rw [List.any_map]
  congr 1
 have e2:fJ (abE dc) (.int .i64 n)=((abM dc).find? fun e=>e.1 == n).map fun e => .sl e.2.length (e.2.flatten.map aA):=by
  unfold fJ abE;generalize abM dc=L
  induction L with
  | nil=>rfl
  | cons p L ih =>
   rw [iM,List.find?_cons,List.find?_cons];have e:(decide (iX (((Value.int IntKind.i64 p.1),PV.sl p.2.length (p.2.flatten.map aA)):Value × PV).1=iX (Value.int IntKind.i64 n)))=(p.1 == n):=by
    show decide (p.1=n)=(p.1 == n);rw [Bool.eq_iff_iff];simp
   rw [e];cases p.1 == n with
   | true=>rfl
   | false=>exact ih
 rw [e1,e2];cases hf:(abM dc).find? fun e=>e.1 == n with
 | some e =>
  have h1:=vJ hf;have h2:e.1=n:=by simpa using aWk hf
  obtain ⟨q1,q2,q3⟩:=ha.mem e h1;refine .inl ⟨List.any_eq_true.2 ⟨e,h1,by simpa using h2⟩,?_⟩
  have:e.2=cH dc n:=by rw [q3,h2];rfl
  rw [Option.map_some,this]
 | none =>
  refine .inr ⟨?_,?_⟩
  ·rw [List.any_eq_false]
   intro e he;exact aBm.1 hf e he
  ·rw [← bHe h hn]
   unfold yN;rw [hf]
theorem iN(h:cE dc)(n:Int):uni 6 (cH dc n):=fun y hy=>h.ud y (eX hy).1
theorem wZ(h:cE dc)(n:Int):(cH dc n).length≤1000:=by
 have:=rF (fun x=>dAb x == n) dc.reverse
 have h2:=h.len;rw [List.length_reverse] at this
 unfold cH;omega
theorem aTt{α:Type}{p:α→Bool}{l:List α}{i:Nat}{x:α}(hi:l[i]? = some x)(hp:p x=true)(hj:∀ j y,j<i→l[j]? = some y→p y=false):l.find? p=some x:=by
 obtain ⟨h1,h2⟩:=kQ3.1 hi;rw [List.find?_eq_some_iff_getElem];exact ⟨hp,i,h1,h2,fun j h=>by
  rw [hj j l[j] h (kQ0 (by omega))];rfl⟩
end
def zero6:List Int:=[0,0,0,0,0,0]
section
variable (dl:Int) (sk dc:Lqq) (oc:List Int) (ov:PV)
def qI(x:List Int):Prop:=∀ T,cF dl oc dc T→∃ T',cF dl oc dc T'∧qL dl sk dc ov x (cD dl oc dc x) T T'
def bPu(g:Nat)(q:List Int→Bool)(x:List Int):Prop:=∀ T,cF dl oc dc T→∃ T',cF dl oc dc T'∧bVx g dl sk dc ov x (((cH dc (dN x)).find? fun y=>q y && cD dl oc dc y).getD zero6) ((cH dc (dN x)).find? fun y=>q y && cD dl oc dc y).isSome T T'
def bPv(x:List Int):Prop:=∀ T,cF dl oc dc T→∃ T',cF dl oc dc T'∧aLr dl sk dc ov x ((sS dl oc dc x).getD zero6) (sS dl oc dc x).isSome T T'
def bPw(x:List Int):Prop:=∀ T,cF dl oc dc T→∃ T',cF dl oc dc T'∧bVy dl sk dc ov x ((aHt dl oc dc x).getD zero6) (aHt dl oc dc x).isSome T T'
def aTu(x:List Int):Prop:=∀ T,cF dl oc dc T→∃ T',cF dl oc dc T'∧bMp dl sk dc ov x (aHs dl oc dc x) T T'
def bPx(x:List Int):Prop:=∀ T,cF dl oc dc T→∃ T',cF dl oc dc T'∧xA dl sk dc ov x (iR dl oc dc x) T T'
end
section
variable {dl:Int} {sk dc:Lqq} {oc:List Int} {ov:PV}
theorem bBe(l:Lqq)(hu:uni 6 l)(hl:l.length≤1000)(hC:∀ y∈l,qI dl sk dc oc ov y)(T:Lqb)(hT:cF dl oc dc T) :
  (∃ i T' y,l[i]? = some y∧(cQ (dK y) && cD dl oc dc y)=true∧(∀ j z,j<i→l[j]? = some z→(cQ (dK z) && cD dl oc dc z)=false)∧cF dl oc dc T'∧aE Tp 7 (sub (cd Tryz.f153) [1,0,1,0,0]) (dE dl sk dc ov 0 l l.length (aF T) T.length 0 0 0 0 0 0) .ret (bG (dE dl sk dc ov i l l.length (aF T') T'.length (y.getD 0 0) (y.getD 1 0) (y.getD 2 0) (y.getD 3 0) (y.getD 4 0) (y.getD 5 0)) [(7,.kb true)])) ∨
  ((l.find? fun y=>cQ (dK y) && cD dl oc dc y)=none∧∃ T',cF dl oc dc T'∧aE Tp 7 (sub (cd Tryz.f153) [1,0,1,0,0]) (dE dl sk dc ov 0 l l.length (aF T) T.length 0 0 0 0 0 0) (.exit 0) (dE dl sk dc ov l.length l l.length (aF T') T'.length 0 0 0 0 0 0)):=by
 have hx:∀ i,i<l.length→∃ a b c d e f,l[i]? = some [a,b,c,d,e,f]∧l.getD i []=[a,b,c,d,e,f]∧[a,b,c,d,e,f]∈l:=fun i hi=>by
  obtain ⟨a,b,c,d,e,f,h⟩:=len6 (hu _ (fV hi));have h1:l[i]? = some [a,b,c,d,e,f]:=by rw [kQ0 hi,h]
  exact ⟨a,b,c,d,e,f,h1,by rw [kQ5,h1];rfl,kQ4 h1⟩
 rcases aE.exF (P:=Tp) (k:=7) (b:=sub (cd Tryz.f153) [1,0,1,0,0]) (e1 := .ret) (e2 := .exit 0) (fun i T=>dE dl sk dc ov i l l.length (aF T) T.length 0 0 0 0 0 0)
  (fun i T=>bG (dE dl sk dc ov i l l.length (aF T) T.length ((l.getD i []).getD 0 0) ((l.getD i []).getD 1 0) ((l.getD i []).getD 2 0) ((l.getD i []).getD 3 0) ((l.getD i []).getD 4 0) ((l.getD i []).getD 5 0)) [(7,.kb true)])
  (fun T=>dE dl sk dc ov l.length l l.length (aF T) T.length 0 0 0 0 0 0) (cF dl oc dc) (by simp) (by simp) (fun i=>cQ (dK (l.getD i [])) && cD dl oc dc (l.getD i [])) l.length
  (fun i T1 hi h1 hp=>by
   obtain ⟨a,b,c,d,e,f,g1,g2,g3⟩:=hx i hi;rw [g2] at hp
   cases hq:cQ b with
   | false=>exact ⟨T1,h1,aQl (by omega) g1 hu hq (aO (by omega)) rfl⟩
   | true =>
    have hp:(cQ b && cD dl oc dc [a,b,c,d,e,f])=false:=hp;rw [hq,iC] at hp
    obtain ⟨T2,h2,c2⟩:=hC _ g3 T1 h1;rw [hp] at c2
    exact ⟨T2,h2,aQk (by omega) g1 hu hq c2 rfl (aO (by omega)) rfl rfl rfl⟩)
  (fun i T1 hi h1 hp=>by
   obtain ⟨a,b,c,d,e,f,g1,g2,g3⟩:=hx i hi;rw [g2] at hp ⊢
   rw [kQ6] at hp
   obtain ⟨T2,h2,c2⟩:=hC _ g3 T1 h1;rw [hp.2] at c2
   exact ⟨T2,h2,aQj (by omega) g1 hu hp.1 c2 rfl rfl rfl⟩)
  (fun T1 h1=>aQm (by omega)) hT with ⟨i,T',h1,h2,h3,h4,h5⟩ | ⟨h1,T',h2,h3⟩
 ·obtain ⟨a,b,c,d,e,f,g1,g2,g3⟩:=hx i h1
  rw [g2] at h2 h5
  refine .inl ⟨i,T',_,g1,h2,fun j z hj hz => ?_,h4,h5⟩
  have:=h3 j hj;rw [kQ5,hz] at this
  exact this
 ·refine .inr ⟨?_,T',h2,h3⟩
  rw [aBm];intro y hy;obtain ⟨i,hi,rfl⟩:=List.mem_iff_getElem.1 hy;have:=h1 i hi;rw [kQ5,kQ0 hi] at this
  simpa using this
theorem bMn(hd:cE dc){x:List Int}(hx:x∈dc)(hC:∀ y∈cH dc (dN x),qI dl sk dc oc ov y):bPu dl sk dc oc ov 155 (fun y=>cQ (dK y)) x:=fun T hT=>by
 have hn:=eN hd hx;have hk:=aHy hd hn;have hL:=bBe (cH dc (dN x)) (iN hd _) (wZ hd _) hC T hT;obtain ⟨x0,x1,x2,x3,x4,x5,rfl⟩:=len6 (hd.ud x hx)
 rcases aHz hd (n:=dN [x0,x1,x2,x3,x4,x5]) (by omega) with ⟨h1,h2⟩ | ⟨h1,h2⟩
 ·rcases hL with ⟨i,T',y,q1,q2,q3,q4,q5⟩ | ⟨q1,T',q2,q3⟩
  ·have hf:=aTt (p:=fun y=>cQ (dK y) && cD dl oc dc y) q1 q2 q3
   rw [hf];obtain ⟨a,b,c,d,e,f,rfl⟩:=len6 (iN hd _ _ (kQ4 q1));exact ⟨T',q4,bMu hk h1 h2 q5⟩
  ·rw [q1]
   exact ⟨T',q2,bMt hk h1 h2 q3⟩
 ·rw [h2] at hL ⊢
  rcases hL with ⟨i,T',y,q1,q2,q3,q4,q5⟩ | ⟨q1,T',q2,q3⟩
  ·simp at q1
  ·exact ⟨T',q2,bMv hk h1 q3⟩
theorem bBf(l:Lqq)(hu:uni 6 l)(hl:l.length≤1000)(hC:∀ y∈l,qI dl sk dc oc ov y)(T:Lqb)(hT:cF dl oc dc T) :
  (∃ i T' y,l[i]? = some y∧(dK y == 6 && cD dl oc dc y)=true∧(∀ j z,j<i→l[j]? = some z→(dK z == 6 && cD dl oc dc z)=false)∧cF dl oc dc T'∧aE Tp 7 (sub (cd Tryz.f153) [1,0,1,0,0]) (dF dl sk dc ov 0 l l.length (aF T) T.length 0 0 0 0 0 0) .ret (bG (dF dl sk dc ov i l l.length (aF T') T'.length (y.getD 0 0) (y.getD 1 0) (y.getD 2 0) (y.getD 3 0) (y.getD 4 0) (y.getD 5 0)) [(7,.kb true)])) ∨
  ((l.find? fun y=>dK y == 6 && cD dl oc dc y)=none∧∃ T',cF dl oc dc T'∧aE Tp 7 (sub (cd Tryz.f153) [1,0,1,0,0]) (dF dl sk dc ov 0 l l.length (aF T) T.length 0 0 0 0 0 0) (.exit 0) (dF dl sk dc ov l.length l l.length (aF T') T'.length 0 0 0 0 0 0)):=by
 have hx:∀ i,i<l.length→∃ a b c d e f,l[i]? = some [a,b,c,d,e,f]∧l.getD i []=[a,b,c,d,e,f]∧[a,b,c,d,e,f]∈l:=fun i hi=>by
  obtain ⟨a,b,c,d,e,f,h⟩:=len6 (hu _ (fV hi));have h1:l[i]? = some [a,b,c,d,e,f]:=by rw [kQ0 hi,h]
  exact ⟨a,b,c,d,e,f,h1,by rw [kQ5,h1];rfl,kQ4 h1⟩
 rcases aE.exF (P:=Tp) (k:=7) (b:=sub (cd Tryz.f153) [1,0,1,0,0]) (e1 := .ret) (e2 := .exit 0) (fun i T=>dF dl sk dc ov i l l.length (aF T) T.length 0 0 0 0 0 0)
  (fun i T=>bG (dF dl sk dc ov i l l.length (aF T) T.length ((l.getD i []).getD 0 0) ((l.getD i []).getD 1 0) ((l.getD i []).getD 2 0) ((l.getD i []).getD 3 0) ((l.getD i []).getD 4 0) ((l.getD i []).getD 5 0)) [(7,.kb true)])
  (fun T=>dF dl sk dc ov l.length l l.length (aF T) T.length 0 0 0 0 0 0) (cF dl oc dc) (by simp) (by simp) (fun i=>dK (l.getD i []) == 6 && cD dl oc dc (l.getD i [])) l.length
  (fun i T1 hi h1 hp=>by
   obtain ⟨a,b,c,d,e,f,g1,g2,g3⟩:=hx i hi;rw [g2] at hp
   cases hq:(b == 6) with
   | false=>exact ⟨T1,h1,aQp (by omega) g1 hu hq (aO (by omega)) rfl⟩
   | true =>
    have hp:((b == 6) && cD dl oc dc [a,b,c,d,e,f])=false:=hp;rw [hq,iC] at hp
    obtain ⟨T2,h2,c2⟩:=hC _ g3 T1 h1;rw [hp] at c2
    exact ⟨T2,h2,aQo (by omega) g1 hu hq c2 rfl (aO (by omega)) rfl rfl rfl⟩)
  (fun i T1 hi h1 hp=>by
   obtain ⟨a,b,c,d,e,f,g1,g2,g3⟩:=hx i hi;rw [g2] at hp ⊢
   rw [kQ6] at hp
   obtain ⟨T2,h2,c2⟩:=hC _ g3 T1 h1;rw [hp.2] at c2
   exact ⟨T2,h2,aQn (by omega) g1 hu hp.1 c2 rfl rfl rfl⟩)
  (fun T1 h1=>aQq (by omega)) hT with ⟨i,T',h1,h2,h3,h4,h5⟩ | ⟨h1,T',h2,h3⟩
 ·obtain ⟨a,b,c,d,e,f,g1,g2,g3⟩:=hx i h1
  rw [g2] at h2 h5
  refine .inl ⟨i,T',_,g1,h2,fun j z hj hz => ?_,h4,h5⟩
  have:=h3 j hj;rw [kQ5,hz] at this
  exact this
 ·refine .inr ⟨?_,T',h2,h3⟩
  rw [aBm];intro y hy;obtain ⟨i,hi,rfl⟩:=List.mem_iff_getElem.1 hy;have:=h1 i hi;rw [kQ5,kQ0 hi] at this
  simpa using this
theorem bMo(hd:cE dc){x:List Int}(hx:x∈dc)(hC:∀ y∈cH dc (dN x),qI dl sk dc oc ov y):bPu dl sk dc oc ov 159 (fun y=>dK y == 6) x:=fun T hT=>by
 have hn:=eN hd hx;have hk:=aHy hd hn;have hL:=bBf (cH dc (dN x)) (iN hd _) (wZ hd _) hC T hT;obtain ⟨x0,x1,x2,x3,x4,x5,rfl⟩:=len6 (hd.ud x hx)
 rcases aHz hd (n:=dN [x0,x1,x2,x3,x4,x5]) (by omega) with ⟨h1,h2⟩ | ⟨h1,h2⟩
 ·rcases hL with ⟨i,T',y,q1,q2,q3,q4,q5⟩ | ⟨q1,T',q2,q3⟩
  ·have hf:=aTt (p:=fun y=>dK y == 6 && cD dl oc dc y) q1 q2 q3
   rw [hf];obtain ⟨a,b,c,d,e,f,rfl⟩:=len6 (iN hd _ _ (kQ4 q1));exact ⟨T',q4,bMx hk h1 h2 q5⟩
  ·rw [q1]
   exact ⟨T',q2,bMw hk h1 h2 q3⟩
 ·rw [h2] at hL ⊢
  rcases hL with ⟨i,T',y,q1,q2,q3,q4,q5⟩ | ⟨q1,T',q2,q3⟩
  ·simp at q1
  ·exact ⟨T',q2,bMy hk h1 q3⟩

theorem bHu(hd:cE dc){x:List Int}(hx:x∈dc)(hC:∀ y∈cH dc (dN x),qI dl sk dc oc ov y):bPv dl sk dc oc ov x:=fun T hT=>by
 obtain ⟨T',h1,h2⟩:=bMn hd hx hC T hT;rw [← aCh hd hx] at h2
 obtain ⟨x0,x1,x2,x3,x4,x5,rfl⟩:=len6 (hd.ud x hx);have hz:∀ z,sS dl oc dc [x0,x1,x2,x3,x4,x5]=some z→z.length=6:=fun z hz=>by
  rw [aCh hd hx] at hz
  exact iN hd _ z (vJ hz)
 cases hr:sS dl oc dc [x0,x1,x2,x3,x4,x5] with
 | none =>
  rw [hr] at h2
  exact ⟨T',h1,bHx (z0:=0) (z1:=0) (z2:=0) (z3:=0) (z4:=0) (z5:=0) h2⟩
 | some z =>
  obtain ⟨a,b,c,d,e,f,rfl⟩:=len6 (hz z hr);rw [hr] at h2
  exact ⟨T',h1,bHx h2⟩
theorem bVv(hd:cE dc){x:List Int}(hx:x∈dc)(hC:∀ y∈cH dc (dN x),qI dl sk dc oc ov y):bPw dl sk dc oc ov x:=fun T hT=>by
 obtain ⟨T',h1,h2⟩:=bMo hd hx hC T hT;rw [← aCi hd hx] at h2
 obtain ⟨x0,x1,x2,x3,x4,x5,rfl⟩:=len6 (hd.ud x hx);have hz:∀ z,aHt dl oc dc [x0,x1,x2,x3,x4,x5]=some z→z.length=6:=fun z hz=>by
  rw [aCi hd hx] at hz
  exact iN hd _ z (vJ hz)
 cases hr:aHt dl oc dc [x0,x1,x2,x3,x4,x5] with
 | none =>
  rw [hr] at h2
  exact ⟨T',h1,bHy (z0:=0) (z1:=0) (z2:=0) (z3:=0) (z4:=0) (z5:=0) h2⟩
 | some z =>
  obtain ⟨a,b,c,d,e,f,rfl⟩:=len6 (hz z hr);rw [hr] at h2
  exact ⟨T',h1,bHy h2⟩
theorem bHv(hd:cE dc)(hov:∀ n,rN ov n (oc.contains n)){x:List Int}(hx:x∈dc)(hC:∀ y∈cH dc (dN x),qI dl sk dc oc ov y):aTu dl sk dc oc ov x:=fun T hT=>by
 obtain ⟨T',h1,h2⟩:=bHu hd hx hC T hT;rw [bUr hd hx];obtain ⟨x0,x1,x2,x3,x4,x5,rfl⟩:=len6 (hd.ud x hx);have hz:∀ z,sS dl oc dc [x0,x1,x2,x3,x4,x5]=some z→z.length=6:=fun z hz=>by
  rw [aCh hd hx] at hz
  exact iN hd _ z (vJ hz)
 cases hr:sS dl oc dc [x0,x1,x2,x3,x4,x5] with
 | none =>
  rw [hr] at h2
  exact ⟨T',h1,bWj (z0:=0) (z1:=0) (z2:=0) (z3:=0) (z4:=0) (z5:=0) h2 rfl (hov _)⟩
 | some z =>
  obtain ⟨a,b,c,d,e,f,rfl⟩:=len6 (hz z hr);rw [hr] at h2
  exact ⟨T',h1,bWi h2 rfl rfl⟩
abbrev pZ(dl:Int)(oc:List Int)(dc:Lqq)(x y:List Int):Bool:=tF x y && cD dl oc dc y && (dK y == 5 || aHs dl oc dc y)
theorem bHw{x0 x1 x2 x3 x4 x5:Int}(hd:cE dc)(l:Lqq)(hu:uni 6 l)(hl:l.length≤1000)(hC:∀ y∈l,qI dl sk dc oc ov y)(hU:∀ y∈l,aTu dl sk dc oc ov y)(T:Lqb)(hT:cF dl oc dc T)(is:Bool) :
  ∃ T',cF dl oc dc T'∧aE Tp 7 (sub (cd Tryz.f154) [1,1,1,0,1,0,0]) (cB dl sk dc ov x0 x1 x2 x3 x4 x5 is 0 l l.length (aF T) T.length) (.exit 0) (cB dl sk dc ov x0 x1 x2 x3 x4 x5 (is && !(l.any (pZ dl oc dc [x0,x1,x2,x3,x4,x5]))) l.length l l.length (aF T') T'.length):=by
 have hx:∀ i,i<l.length→∃ a b c d e f,l[i]? = some [a,b,c,d,e,f]∧[a,b,c,d,e,f]∈l:=fun i hi=>by
  obtain ⟨a,b,c,d,e,f,h⟩:=len6 (hu _ (fV hi));have h1:l[i]? = some [a,b,c,d,e,f]:=by rw [kQ0 hi,h]
  exact ⟨a,b,c,d,e,f,h1,kQ4 h1⟩
 have et:∀ i y,l[i]? = some y→(l.take (i+1)).any (pZ dl oc dc [x0,x1,x2,x3,x4,x5])=((l.take i).any (pZ dl oc dc [x0,x1,x2,x3,x4,x5]) || pZ dl oc dc [x0,x1,x2,x3,x4,x5] y):=fun i y h=>by
  rw [List.take_add_one,h,List.any_append];simp
 obtain ⟨acc, ⟨h1,h2⟩,h3⟩:=aE.ex (P:=Tp) (k:=7) (b:=sub (cd Tryz.f154) [1,1,1,0,1,0,0]) (e := .exit 0) (fun i (a:Bool × Lqb)=>cB dl sk dc ov x0 x1 x2 x3 x4 x5 a.1 i l l.length (aF a.2) a.2.length)
  (fun a=>cB dl sk dc ov x0 x1 x2 x3 x4 x5 a.1 l.length l l.length (aF a.2) a.2.length) (fun i a=>cF dl oc dc a.2∧a.1=(is && !((l.take i).any (pZ dl oc dc [x0,x1,x2,x3,x4,x5])))) (by simp) l.length
  (fun i acc hi hI=>by
   obtain ⟨b,T1⟩:=acc;obtain ⟨h1,h2⟩:=hI;dsimp only at h1 h2
   obtain ⟨a,k,c,d,e,f,g1,g3⟩:=hx i hi;rw [et i _ g1];cases hb:b with
   | false =>
    rw [hb] at h2
    have hI:∀ q:Bool,false=(is && !((l.take i).any (pZ dl oc dc [x0,x1,x2,x3,x4,x5]) || q)):=fun q=>by
     revert h2;cases is <;> cases (l.take i).any (pZ dl oc dc [x0,x1,x2,x3,x4,x5]) <;> cases q <;> simp
    by_cases h5:k=5
    ·exact ⟨(false,T1),⟨h1,hI _⟩,bBj (by omega) g1 hu h5 rfl (aO (by omega)) rfl⟩
    ·by_cases h7:k=7
     ·exact ⟨(false,T1),⟨h1,hI _⟩,bBo (by omega) g1 hu h5 h7 rfl (aO (by omega)) rfl⟩
     ·exact ⟨(false,T1),⟨h1,hI _⟩,bBq (by omega) g1 hu h5 h7 rfl (aO (by omega)) rfl⟩
   | true =>
    rw [hb] at h2
    have hI:∀ q:Bool,(!q)=(is && !((l.take i).any (pZ dl oc dc [x0,x1,x2,x3,x4,x5]) || q)):=fun q=>by
     revert h2;cases is <;> cases (l.take i).any (pZ dl oc dc [x0,x1,x2,x3,x4,x5]) <;> cases q <;> simp
    have hIt:∀ q:Bool,q=true→false=(is && !((l.take i).any (pZ dl oc dc [x0,x1,x2,x3,x4,x5]) || q)):=fun q hq=>by
     rw [← hI,hq];rfl
    have hIf:∀ q:Bool,q=false→true=(is && !((l.take i).any (pZ dl oc dc [x0,x1,x2,x3,x4,x5]) || q)):=fun q hq=>by
     rw [← hI,hq];rfl
    obtain ⟨T2,q1,q2⟩:=hC _ g3 T1 h1
    by_cases h5:k=5
    ·cases hc:cD dl oc dc [a,k,c,d,e,f] with
     | true =>
      rw [hc] at q2
      exact ⟨(false,T2),⟨q1,hIt _ (by subst h5;simp [pZ,tF,hc])⟩,bBh (by omega) g1 hu h5 rfl q2 rfl (aO (by omega)) rfl rfl rfl⟩
     | false =>
      rw [hc] at q2
      exact ⟨(true,T2),⟨q1,hIf _ (by simp [pZ,hc])⟩,bBi (by omega) g1 hu h5 rfl q2 rfl (aO (by omega)) rfl rfl rfl⟩
    ·by_cases h7:k=7
     ·cases hr:cQ x1 with
      | true=>exact ⟨(true,T1),⟨h1,hIf _ (by simp [pZ,tF,hr,h5])⟩,bBn (by omega) g1 hu h5 h7 rfl hr (aO (by omega)) rfl⟩
      | false =>
       cases hc:cD dl oc dc [a,k,c,d,e,f] with
       | true =>
        rw [hc] at q2
        obtain ⟨T3,q3,q4⟩:=hU _ g3 T2 q1;cases hu2:aHs dl oc dc [a,k,c,d,e,f] with
        | true =>
         rw [hu2] at q4
         exact ⟨(false,T3),⟨q3,hIt _ (by subst h7;simp [pZ,tF,hc,hr,hu2])⟩,bBk (by omega) g1 hu h5 h7 rfl hr q2 rfl q4 rfl (aO (by omega)) rfl rfl rfl⟩
        | false =>
         rw [hu2] at q4
         exact ⟨(true,T3),⟨q3,hIf _ (by simp [pZ,tF,hu2,h5])⟩,bBl (by omega) g1 hu h5 h7 rfl hr q2 rfl q4 rfl (aO (by omega)) rfl rfl rfl⟩
       | false =>
        rw [hc] at q2
        exact ⟨(true,T2),⟨q1,hIf _ (by simp [pZ,hc])⟩,bBm (by omega) g1 hu h5 h7 rfl hr q2 rfl (aO (by omega)) rfl rfl rfl⟩
     ·exact ⟨(true,T1),⟨h1,hIf _ (by simp [pZ,tF,h5,h7])⟩,bBp (by omega) g1 hu h5 h7 rfl (aO (by omega)) rfl⟩)
  (fun acc hI=>aQr (by omega)) (acc:=(is,T)) ⟨hT,by simp⟩
 obtain ⟨b,T1⟩:=acc;dsimp only at h1 h2 h3
 rw [List.take_length] at h2
 rw [h2] at h3
 exact ⟨T1,h1,h3⟩
theorem bVw(hd:cE dc){x:List Int}(hx:x∈dc)(hC:∀ y∈cH dc (dN x),qI dl sk dc oc ov y)(hU:∀ y∈cH dc (dN x),aTu dl sk dc oc ov y):qI dl sk dc oc ov x:=fun T hT=>by
 have hn:=eN hd hx;have hk:=aHy hd hn;obtain ⟨x0,x1,x2,x3,x4,x5,rfl⟩:=len6 (hd.ud x hx);obtain ⟨T',h1,hL⟩:=bHw (x0:=x0) (x1:=x1) (x2:=x2) (x3:=x3) (x4:=x4) (x5:=x5) hd (cH dc (dN [x0,x1,x2,x3,x4,x5])) (iN hd _) (wZ hd _) hC hU T hT (!cA dl [x0,x1,x2,x3,x4,x5]);have hc:(!cA dl [x0,x1,x2,x3,x4,x5] && !((cH dc (dN [x0,x1,x2,x3,x4,x5])).any (pZ dl oc dc [x0,x1,x2,x3,x4,x5])))=cD dl oc dc [x0,x1,x2,x3,x4,x5]:=(bUq hd hx).symm;rw [hc] at hL
 cases hh:dV (aF T) (.int .i64 (dN [x0,x1,x2,x3,x4,x5])) with
 | true=>exact ⟨T,hT,bWd (hT.keys hd hn) hh (hT.look hd hx hh)⟩
 | false =>
  cases hh2:dV (aF T') (.int .i64 (dN [x0,x1,x2,x3,x4,x5])) with
  | true =>
   refine ⟨T',h1,?_⟩
   rcases aHz hd (n:=dN [x0,x1,x2,x3,x4,x5]) (by omega) with ⟨a1,a2⟩ | ⟨a1,a2⟩
   ·have:=bWe (x0:=x0) (hT.keys hd hn) hh hk a1 a2 hL (h1.keys hd hn) hh2
    rw [show pE (aF T') (.int .i64 x0) (blP (cD dl oc dc [x0,x1,x2,x3,x4,x5]))=aF T' from h1.again hd hx] at this
    exact this
   ·rw [a2] at hL
    have:=bWg (x0:=x0) (hT.keys hd hn) hh hk a1 hL (h1.keys hd hn) hh2;rw [show pE (aF T') (.int .i64 x0) (blP (cD dl oc dc [x0,x1,x2,x3,x4,x5]))=aF T' from h1.again hd hx] at this
    exact this
  | false =>
   refine ⟨T'++[(x0,cD dl oc dc [x0,x1,x2,x3,x4,x5])],h1.put hx hh2,?_⟩;have e1:(T'++[(x0,cD dl oc dc [x0,x1,x2,x3,x4,x5])]).length=T'.length+1:=by simp
   unfold qL dG;rw [bBr,e1]
   rcases aHz hd (n:=dN [x0,x1,x2,x3,x4,x5]) (by omega) with ⟨a1,a2⟩ | ⟨a1,a2⟩
   ·exact bWf (hT.keys hd hn) hh hk a1 a2 hL (h1.keys hd hn) hh2
   ·rw [a2] at hL
    exact bWh (hT.keys hd hn) hh hk a1 hL (h1.keys hd hn) hh2
theorem rM(hd:cE dc){x y:List Int}(hx:x∈dc)(hy:y∈cH dc (dN x)):y∈dc∧dN x<dN y:=by
 obtain ⟨h1,h2⟩:=eX hy;exact ⟨h1,bHc hd h1 h2 (eN hd hx).1⟩
theorem aIa(hd:cE dc)(hov:∀ n,rN ov n (oc.contains n)):∀ (n:Nat) (x:List Int),x∈dc→10000-dN x≤(n:Int)→qI dl sk dc oc ov x
 | 0,x,hx,h=>by have:=eN hd hx;omega
 | n+1,x,hx,h=>bVw hd hx (fun y hy=>by
   obtain ⟨h1,h2⟩:=rM hd hx hy;exact aIa hd hov n y h1 (by omega)) (fun y hy=>by
   obtain ⟨h1,h2⟩:=rM hd hx hy;exact bHv hd hov h1 fun z hz=>by
    obtain ⟨h3,h4⟩:=rM hd h1 hz;exact aIa hd hov n z h3 (by omega))
theorem bBg(hd:cE dc)(hov:∀ n,rN ov n (oc.contains n)){x:List Int}(hx:x∈dc):qI dl sk dc oc ov x:=aIa hd hov 10000 x hx (by have:=eN hd hx;omega)
theorem cAh(hd:cE dc)(hov:∀ n,rN ov n (oc.contains n)){x:List Int}(hx:x∈dc):bPv dl sk dc oc ov x:=bHu hd hx fun y hy=>bBg hd hov (eX hy).1
theorem cAi(hd:cE dc)(hov:∀ n,rN ov n (oc.contains n)){x:List Int}(hx:x∈dc):bPw dl sk dc oc ov x:=bVv hd hx fun y hy=>bBg hd hov (eX hy).1
theorem cAj(hd:cE dc)(hov:∀ n,rN ov n (oc.contains n)){x:List Int}(hx:x∈dc):aTu dl sk dc oc ov x:=bHv hd hov hx fun y hy=>bBg hd hov (eX hy).1
theorem aTv(hd:cE dc)(hov:∀ n,rN ov n (oc.contains n)):∀ (n:Nat) (x:List Int),x∈dc→10000-dN x≤(n:Int)→bPx dl sk dc oc ov x
 | 0,x,hx,h=>by have:=eN hd hx;omega
 | n+1,x,hx,h=>fun T hT=>by
  obtain ⟨T',h1,h2⟩:=cAi (dl:=dl) (sk:=sk) hd hov hx T hT;rw [aTp hd hx];cases hr:aHt dl oc dc x with
  | none =>
   rw [hr] at h2
   obtain ⟨x0,x1,x2,x3,x4,x5,rfl⟩:=len6 (hd.ud x hx);exact ⟨T',h1,bWl (z0:=0) (z1:=0) (z2:=0) (z3:=0) (z4:=0) (z5:=0) h2 rfl⟩
  | some z =>
   have hz:z∈cH dc (dN x):=by
    rw [aCi hd hx] at hr
    exact vJ hr
   obtain ⟨a1,a2⟩:=rM hd hx hz;obtain ⟨T2,h3,h4⟩:=aTv hd hov n z a1 (by omega) T' h1
   rw [hr] at h2
   obtain ⟨x0,x1,x2,x3,x4,x5,rfl⟩:=len6 (hd.ud x hx);obtain ⟨a,b,c,d,e,f,rfl⟩:=len6 (hd.ud z a1);exact ⟨T2,h3,bWk h2 rfl h4⟩
theorem bZr(hd:cE dc)(hov:∀ n,rN ov n (oc.contains n)){x:List Int}(hx:x∈dc):bPx dl sk dc oc ov x:=aTv hd hov 10000 x hx (by have:=eN hd hx;omega)
theorem vP(n:Int):rN bI n (([]:List Int).contains n):=fun base=>FV.argwk (pV [] n (by simp)) (by kernel_rfl)
theorem aCl{l:List Int}(hl:l.length≤1000)(n:Int):rN (aG l) n (l.contains n):=fun base=>pV l n hl
end
end
section
variable {P:Program} {T:TT} {E:Env} {C C0:Cx} {M M0 M1:Mem} {w w0:World}

def bkN(all:List Nat)(j:Nat):Option Nat:=all[j]?
def vX(all0:List Nat):List Nat→Mem→Option Upd
 | i::r,some o::m=>match mpO (bkN all0) o with
  | some o'=>(vX all0 r m).map ((i,o') :: ·)
  | none=>none
 | [],[]=>some []
 | _,_=>none

theorem aFs{all0:List Nat}:∀ {ids:List Nat} {m:Mem} {L:Upd},vX all0 ids m=some L→ids.Nodup →
  m.length=ids.length ∧
  ∀ (N:Mem),(∀ (p i:Nat) (o':AO),ids[p]? = some i→(bV (upds N L) i=some o'↔∃ o,m[p]? = some (some o)∧mpO (bkN all0) o=some o')) ∧
   ∀ j,j∉ids→bV (upds N L) j=bV N j
 | [],[],L,h,_=>by
  unfold vX at h;cases h
  refine ⟨rfl,fun N=>⟨fun p i o' hp=>by simp at hp,fun _ _=>rfl⟩⟩
 | i::r,some o::m,L,h,hd=>by
  unfold vX at h
  split at h
  ·rename_i o' ho
   simp only [lJ] at h
   obtain ⟨L',hL',rfl⟩:=h;obtain ⟨hd1,hd2⟩:=List.nodup_cons.1 hd;obtain ⟨q1,q2⟩:=aFs (ids:=r) hL' hd2;refine ⟨by simpa using q1,fun N => ?_⟩
   obtain ⟨r1,r4⟩:=q2 (bC N i (some o'));refine ⟨fun p j o2 hp => ?_,fun j hj => ?_⟩
   ·cases p with
    | zero =>
     simp at hp;subst hp
     simp only [upds];rw [r4 i hd1,dJ,if_pos rfl];constructor
     ·intro h;cases h;exact ⟨o,rfl,ho⟩
     ·rintro ⟨o3,h3,h4⟩
      simp at h3;subst h3
      rw [ho] at h4;exact h4
    | succ p =>
     simp only [upds];rw [List.getElem?_cons_succ] at hp
     rw [r1 p j o2 hp];rfl
   ·simp only [upds]
    rw [r4 j (fun e=>hj (kQ7 _ e)),dJ,if_neg (fun e=>hj (by simp [e]))]
  ·cases h
 | [],_::_,L,h,_=>by unfold vX at h;cases h
 | _::_,[],L,h,_=>by unfold vX at h;cases h
 | _::_,none::_,L,h,_=>by unfold vX at h;cases h

theorem aCs{all0:List Nat}:∀ {ids:List Nat} {m:Mem} {L:Upd},vX all0 ids m=some L→∀ (p:Nat) (o1:AO),m[p]? = some (some o1)→∃ o',mpO (bkN all0) o1=some o'
 | [],[],L,h,p,o1,hp=>by simp at hp
 | i::r,some o::m,L,h,p,o1,hp=>by
  unfold vX at h
  split at h
  ·rename_i hx
   simp only [lJ] at h
   obtain ⟨L',hL',_⟩:=h;cases p with
   | zero=>simp at hp;subst hp;exact ⟨_,hx⟩
   | succ p=>exact aCs hL' p o1 (by simpa using hp)
  ·cases h
 | [],_::_,L,h,_,_,_=>by unfold vX at h;cases h
 | _::_,[],L,h,_,_,_=>by unfold vX at h;cases h
 | _::_,none::_,L,h,_,_,_=>by unfold vX at h;cases h

def Cx.backN(C C1:Cx)(all:List Nat):Cx :=
 {ι:=fun j=>match idx all j 0 with | some p=>C1.ι p | none=>C.ι j
  κ:=fun j=>match idx all j 0 with | some p=>C1.κ p | none=>C.κ j
  F:=C1.F }

theorem bIm{ids news:List Nat}{r y:AV}{L:Upd}{C1:Cx}{w':World}{u:Value}(hd:distinct 0 ids=true)(hda:distinct 0 (ids++news)=true)(hb:∀ i∈news,fK M i=true)
  (hs:rnM 0 ids (ids.map (at? M))=some M0) (hlv:∀ i∈ids,eZ M i=true) (hU:vX (ids++news) (ids++news) M1=some L) (hy:mpA (bkN (ids++news)) r=some y)
  (hM:aU P C M w) (hF:Fr (C.rn 0 ids) M0 w C1 M1 w') (hM1:aU P C1 M1 w') (hr:Rep C1 M1 w' r u):Fr C M w (C.backN C1 (ids++news)) (upds M L) w'∧aU P (C.backN C1 (ids++news)) (upds M L) w'∧Rep (C.backN C1 (ids++news)) (upds M L) w' y u:=by
 obtain ⟨_,hnd⟩:=iV hd;obtain ⟨_,hna⟩:=iV hda;obtain ⟨hM0,hmp,hsrc⟩:=qO (k:=0) hM hd hs;have hlen:M0.length=ids.length:=by have:=(aAb hs).1;simpa using this
 generalize hall:ids++news=all at *
 obtain ⟨hl1,hup⟩:=aFs hU hna;obtain ⟨u1,u4⟩:=hup M;have hL:=hM0.le hF;have inA:∀ (p i:Nat),ids[p]? = some i→all[p]? = some i:=fun p i h=>by
  rw [← hall,aBk (kQ3.1 h).1];exact h
 have memA:∀ i,i∈all↔i∈ids∨i∈news:=fun i=>by rw [← hall];simp
 have newF:∀ (p i:Nat),all[p]? = some i→i∉ids→fK M i=true:=fun p i h hn=>by
  rcases (memA i).1 (kQ4 h) with h | h
  ·exact absurd h hn
  ·exact hb i h
 have oldP:∀ (p i:Nat),all[p]? = some i→i∈ids→ids[p]? = some i:=fun p i h hn=>by
  obtain ⟨q,hq,he⟩:=List.mem_iff_getElem.1 hn;have h2:ids[q]? = some i:=by rw [kQ0 hq,he]
  have e1:=pS hna 0 h;have e2:=pS hna 0 (inA q i h2);rw [e1] at e2
  have:p=q:=by simpa using e2
  rw [this];exact h2
 have rnp:∀ p i,ids[p]? = some i→rnI 0 ids i=some p:=fun p i h=>by
  have:=pS hnd 0 h;unfold rnI;rw [show Nat.blt i 0=false from rfl,this,gN]
 have shown0:∀ p i,ids[p]? = some i→∃ o o0,M[i]? = some (some o)∧o.live=true∧M0[p]? = some (some o0)∧o0.live=true∧(C.rn 0 ids).ι p=C.ι i∧(C.rn 0 ids).κ p=C.κ i:=fun p i hp=>by
  obtain ⟨o,h1,h2⟩:=eF (hlv i (kQ4 hp));obtain ⟨o0,h3,h4⟩:=hmp.fw _ _ _ (rnp p i hp) h1;exact ⟨o,o0,h1,h2,h3,by rw [bP h4];exact h2,hmp.at_ _ _ (rnp p i hp)⟩
 have sh_of:∀ (p:Nat) (o0:AO),M0[p]? = some (some o0)→∃ i o,ids[p]? = some i∧M[i]? = some (some o)∧o.live=true∧o0.live=true∧(C.rn 0 ids).ι p=C.ι i:=fun p o0 hp=>by
  obtain ⟨hl,_⟩:=kQ3.1 hp;have hp':ids[p]? = some ids[p]:=kQ0 (by omega)
  obtain ⟨o,o1,h1,h2,h3,h4,h5,_⟩:=shown0 p _ hp';rw [hp] at h3;cases h3
  exact ⟨_,o,hp',h1,h2,h4,h5⟩
 have apart:∀ (j:Nat) (o:AO) (b:Nat),j∉ids→M[j]? = some (some o)→o.live=true→C.ι j=some b→w'.heap[b]? = w.heap[b]? ∧ ¬ C1.F b∧∀ (p:Nat) (o1:AO),M1[p]? = some (some o1)→o1.live=true→C1.ι p≠some b:=fun j o b hj h1 h2 h3=>by
  have hb1:=hM.lt j o b h1 h2 h3;have no0:∀ (p:Nat) (o0:AO),M0[p]? = some (some o0)→o0.live=true→(C.rn 0 ids).ι p≠some b:=fun p o0 hp _ he=>by
   obtain ⟨i,o2,q1,q2,q3,_,q4⟩:=sh_of p o0 hp;rw [q4] at he
   have:=hM.inj j i o o2 b h1 h2 q2 q3 h3 he;subst this;exact hj (kQ4 q1)
  refine ⟨hF.keep b hb1 no0,fun hf => ?_,fun p o1 hp hl he => ?_⟩
  ·rcases hF.F2 b hf with q | q | ⟨p,o0,q1,q2,q3⟩
   ·exact hM.nF j o b h1 h2 h3 q
   ·omega
   ·exact no0 p o0 q1 q2 q3
  ·rcases hF.new p o1 b hp hl he with q | ⟨p0,o0,q1,q2,q3⟩
   ·omega
   ·exact no0 p0 o0 q1 q2 q3
 have ix:∀ j,(j∈all→∃ p,idx all j 0=some p∧all[p]? = some j)∧(j∉all→idx all j 0=none):=fun j=>by
  refine ⟨fun hj => ?_,fun hj => ?_⟩
  ·obtain ⟨p,hp,he⟩:=List.mem_iff_getElem.1 hj
   have:all[p]? = some j:=by rw [kQ0 hp,he]
   exact ⟨p,by simpa using pS hna 0 this,this⟩
  ·cases h1:idx all j 0 with
   | none=>rfl
   | some p =>
    obtain ⟨_,h2⟩:=uM _ _ _ _ h1;exact absurd (kQ4 h2) hj
 have cls:∀ (j:Nat) (o':AO),(upds M L)[j]? = some (some o')→(∃ p o1,all[p]? = some j∧M1[p]? = some (some o1)∧mpO (bkN all) o1=some o'∧(C.backN C1 all).ι j=C1.ι p∧(C.backN C1 all).κ j=C1.κ p) ∨
   (j∉ids∧j∉all∧M[j]? = some (some o')∧(C.backN C1 all).ι j=C.ι j∧(C.backN C1 all).κ j=C.κ j):=fun j o' hj=>by
  rw [← bJ] at hj
  by_cases hm:j∈all
  ·obtain ⟨p,hp1,hp2⟩:=(ix j).1 hm
   obtain ⟨o1,h1,h2⟩:=(u1 p j o' hp2).1 hj;exact .inl ⟨p,o1,hp2,h1,h2,by simp [Cx.backN,hp1],by simp [Cx.backN,hp1]⟩
  ·have hn:=(ix j).2 hm
   rw [u4 j hm] at hj
   exact .inr ⟨fun h=>hm ((memA j).2 (.inl h)),hm,bJ.1 hj,by simp [Cx.backN,hn],by simp [Cx.backN,hn]⟩
 have hF2:Fr C M w (C.backN C1 all) (upds M L) w':=by
  refine ⟨hF.os,hF.tape,hF.out,hF.size,fun b hb1 hn => ?_,fun i o ho => ?_,fun i o ho ty n cs hx => ?_,fun i o ho o' hx hl => ?_,fun j o b hj hl hjb => ?_,fun b hb=>hF.F1 b hb,fun b hb => ?_⟩
  ·exact hF.keep b hb1 fun p o0 hp hl he=>by
    obtain ⟨i,o2,q1,q2,q3,_,q4⟩:=sh_of p o0 hp;rw [q4] at he
    exact hn i o2 q2 q3 he
  ·by_cases hm:i∈all
   ·obtain ⟨p,hp1,hp2⟩:=(ix i).1 hm
    have hmi:i∈ids:=Classical.byContradiction fun hni=>dD (newF p i hp2 hni) o ho
    obtain ⟨_,o0,_,_,h3,h4,h5,h6⟩:=shown0 p i (oldP p i hp2 hmi);obtain ⟨⟨o1,q1⟩,q2,q3⟩:=hF.ids p o0 h3;refine ⟨?_,by simp only [Cx.backN,hp1];rw [q2,h5],by simp only [Cx.backN,hp1];rw [q3,h6]⟩
    obtain ⟨o',hq⟩:=aCs hU p o1 q1;exact ⟨o',bJ.1 ((u1 p i o' hp2).2 ⟨o1,q1,hq⟩)⟩
   ·refine ⟨⟨o,bJ.1 (by rw [u4 i hm];exact bJ.2 ho)⟩,by simp [Cx.backN,(ix i).2 hm],by simp [Cx.backN,(ix i).2 hm]⟩
  ·rcases cls i _ hx with ⟨p,o1,q1,q2,q3,_⟩ | ⟨_,_,q3,_⟩
   ·have hmi:i∈ids:=Classical.byContradiction fun hni=>dD (newF p i q1 hni) o ho
    have q1:=oldP p i q1 hmi;rw [lD q3] at q2
    obtain ⟨o2,o0,h1,_,h3,_⟩:=shown0 p i q1;obtain ⟨cs',h5⟩:=hF.row p o0 h3 _ _ _ q2;obtain ⟨o4,h6,h7⟩:=hmp.bk _ _ _ (rnp p i q1) h5;rw [lD h7] at h6
    exact ⟨cs',h6⟩
   ·exact ⟨cs,q3⟩
  ·rcases cls i _ hx with ⟨p,o1,q1,q2,q3,_⟩ | ⟨_,_,q3,_⟩
   ·have hmi:i∈ids:=Classical.byContradiction fun hni=>dD (newF p i q1 hni) o ho
    obtain ⟨o2,o0,h1,h2,h3,_⟩:=shown0 p i (oldP p i q1 hmi);rw [ho] at h1;cases h1
    exact h2
   ·rw [ho] at q3;cases q3;exact hl
  ·have fin:∀ (p:Nat) (o1:AO),M1[p]? = some (some o1)→o1.live=true→C1.ι p=some b→w.heap.size≤b∨∃ (id0:Nat) (o0:AO),M[id0]? = some (some o0)∧o0.live=true∧C.ι id0=some b:=fun p o1 h1 h2 h3=>by
    rcases hF.new p o1 b h1 h2 h3 with q | ⟨p0,o0,q1,q2,q3⟩
    ·exact .inl q
    ·obtain ⟨i,o2,r1,r2,r3,_,r4⟩:=sh_of p0 o0 q1
     rw [r4] at q3
     exact .inr ⟨i,o2,r2,r3,q3⟩
   rcases cls j _ hj with ⟨p,o1,q1,q2,q3,q4,_⟩ | ⟨_,_,q3,q4,_⟩
   ·rw [q4] at hjb
    exact fin p o1 q2 (by rw [← bP q3];exact hl) hjb
   ·rw [q4] at hjb
    exact .inr ⟨j,o,q3,hl,hjb⟩
  ·rcases hF.F2 b hb with q | q | ⟨p,o0,q1,q2,q3⟩
   ·exact .inl q
   ·exact .inr (.inl q)
   ·obtain ⟨i,o2,r1,r2,r3,_,r4⟩:=sh_of p o0 q1
    rw [r4] at q3
    exact .inr (.inr ⟨i,o2,r2,r3,q3⟩)
 have hL2:=hM.le hF2;have hbk:aVa (bkN all) C1 (C.backN C1 all) M1 (upds M L):=by
  refine ⟨fun i j o' hij hj=>(u1 i j o' hij).1 (bJ.2 hj),fun i j o hij hi => ?_,fun i j hij => ?_,fun _ h=>h⟩
  ·obtain ⟨o',hq⟩:=aCs hU i o hi
   exact ⟨o',bJ.1 ((u1 i j o' hij).2 ⟨o,hi,hq⟩),hq⟩
  ·have:=pS hna 0 hij
   rw [gN] at this
   simp [Cx.backN,this]
 refine ⟨hF2,⟨fun j ty n cs h => ?_,fun j ty cs h => ?_,fun j es cl h => ?_,fun j j' o1 o2 b q1 l1 q2 l2 e1 e2 => ?_,fun j o b h hl hb => ?_,hM1.Fs,fun j o b h hl hb => ?_⟩,rX hbk hr hy⟩
 ·rcases cls j _ h with ⟨p,o1,q1,q2,q3,q4,q5⟩ | ⟨q1,_,q3,q4,q5⟩
  ·rw [lD q3] at q2
   rw [q4,q5];exact hM1.row _ _ _ _ q2
  ·rw [q4,q5]
   rcases hM.row _ _ _ _ q3 with q | ⟨b,arr,inf,p0,p1,p2,p3,p4,p5,p6,p7,p8⟩
   ·exact .inl q
   ·exact .inr ⟨b,arr,inf,p0,by rw [(apart j _ b q1 q3 rfl p0).1];exact p1,p2,p3,p4,p5,p6,fun i hi=>(p7 i hi).mono hL2.F hL2.fz,p8⟩
 ·rcases cls j _ h with ⟨p,o1,q1,q2,q3,q4,q5⟩ | ⟨q1,_,q3,q4,q5⟩
  ·cases o1 with
   | box ty' l =>
    simp only [mpO,lJ] at q3
    obtain ⟨l',hl',e⟩:=q3;cases e;obtain ⟨b,arr,p0,p1,p2,p3,p4⟩:=hM1.box _ _ _ q2;obtain ⟨n1,n2⟩:=gI hbk (w:=w') (us:=fun j=>arr.getD j undef) p3 hl'
    exact ⟨b,arr,by rw [q4];exact p0,p1,by omega,n2,fun j hj=>p4 j (by omega)⟩
   | row=>simp [mpO] at q3
   | mp=>simp [mpO] at q3
   | pk=>simp [mpO] at q3
   | dead=>simp [mpO] at q3
  ·obtain ⟨b,arr,p0,p1,p2,p3,p4⟩:=hM.box _ _ _ q3
   exact ⟨b,arr,by rw [q4];exact p0,by rw [(apart j _ b q1 q3 rfl p0).1];exact p1,p2,fun i hi=>(p3 i hi).mono hL2,p4⟩
 ·rcases cls j _ h with ⟨p,o1,q1,q2,q3,q4,q5⟩ | ⟨q1,_,q3,q4,q5⟩
  ·cases o1 with
   | mp es' cl' =>
    simp only [mpO,Option.some.injEq] at q3
    cases q3;obtain ⟨b,arr,p0,p1,p2,p3⟩:=hM1.mp _ _ _ q2;refine ⟨b,arr,by rw [q4];exact p0,p1,p2,fun j hj => ?_⟩
    obtain ⟨en,s1,s2,s3,s4⟩:=p3 j hj;exact ⟨en,s1,s2,s3,s4.mono hbk.F (fun _ _=>rfl)⟩
   | row=>simp [mpO] at q3
   | box=>simp [mpO] at q3
   | pk=>simp [mpO] at q3
   | dead=>simp [mpO] at q3
  ·obtain ⟨b,arr,p0,p1,p2,p3⟩:=hM.mp _ _ _ q3
   refine ⟨b,arr,by rw [q4];exact p0,by rw [(apart j _ b q1 q3 rfl p0).1];exact p1,p2,fun i hi => ?_⟩
   obtain ⟨en,s1,s2,s3,s4⟩:=p3 i hi;exact ⟨en,s1,s2,s3,s4.mono hL2.F hL2.fz⟩
 ·rcases cls j _ q1 with ⟨p,a1,r1,r2,r3,r4,_⟩ | ⟨r1,rb,r3,r4,_⟩ <;> rcases cls j' _ q2 with ⟨p',a2,t1,t2,t3,t4,_⟩ | ⟨t1,tb,t3,t4,_⟩
  all_goals (rw [r4] at e1;rw [t4] at e2)
  ·have:=hM1.inj p p' a1 a2 b r2 (by rw [← bP r3];exact l1) t2 (by rw [← bP t3];exact l2) e1 e2
   subst this;rw [r1] at t1;cases t1;rfl
  ·exact absurd e1 ((apart j' o2 b t1 t3 l2 e2).2.2 p a1 r2 (by rw [← bP r3];exact l1))
  ·exact absurd e2 ((apart j o1 b r1 r3 l1 e1).2.2 p' a2 t2 (by rw [← bP t3];exact l2))
  ·exact hM.inj j j' o1 o2 b r3 l1 t3 l2 e1 e2
 ·rcases cls j _ h with ⟨p,o1,q1,q2,q3,q4,q5⟩ | ⟨q1,_,q3,q4,q5⟩
  ·rw [q4] at hb
   exact hM1.nF _ _ b q2 (by rw [← bP q3];exact hl) hb
  ·rw [q4] at hb
   exact (apart j o b q1 q3 hl hb).2.1
 ·rcases cls j _ h with ⟨p,o1,q1,q2,q3,q4,q5⟩ | ⟨q1,_,q3,q4,q5⟩
  ·rw [q4] at hb
   exact hM1.lt _ _ b q2 (by rw [← bP q3];exact hl) hb
  ·rw [q4] at hb
   exact kQ8 (hM.lt j o b q3 hl hb) hF.size

def bIn(ids news:List Nat)(args:List AV)(bs:Upd)(M1:Mem)(r:AV):Option (List AV × Mem × AV × Upd):=match distinct 0 ids && distinct 0 (ids++news) && ids.all (eZ (upds [] bs)) with
 | true=>match rnM 0 ids (ids.map (at? (upds [] bs))) with
  | some M0=>match rnL 0 ids args with
   | some args0=>match vX (ids++news) (ids++news) M1 with
    | some L=>match mpA (bkN (ids++news)) r with
     | some y=>some (args0,M0,y,L)
     | none=>none
    | none=>none
   | none=>none
  | none=>none
 | false=>none
theorem FMM.fcN{f base k:Nat}(hk:Nat.ble k 8=true){ids:List Nat}{args args0:List AV}{bs:Upd}{r y:AV}{L:Upd}(h:FMM P f args0 M0 r M1)(hs:bIn ids ((List.range k).map (base + ·)) args bs M1 r=some (args0,M0,y,L)):FC P f args bs base y L:=fun M hb hf hf2=>by
 unfold bIn at hs
 have hsub:aMq (upds [] bs) M:=fun id o ho=>by
  rcases qM bs [] id o ho with h5 | h5
  ·exact hb _ h5
  ·simp [bV] at h5
 split at hs
 ·rename_i hd
  rw [kQ6,kQ6,jY] at hd
  obtain ⟨⟨hd1,hd2⟩,hd3⟩:=hd;have hlv:∀ i∈ids,∃ o,bV (upds [] bs) i=some o∧bV M i=some o∧o.live=true:=fun i hi=>by
   obtain ⟨o,h1,h2⟩:=eF (hd3 i hi);exact ⟨o,bJ.2 h1,hsub _ _ (bJ.2 h1),h2⟩
  split at hs
  ·rename_i h1
   split at hs
   ·rename_i h2
    split at hs
    ·rename_i h3
     split at hs
     ·rename_i h4
      cases hs;have he:ids.map (at? M)=ids.map (at? (upds [] bs)):=aHe fun i hi=>by
       obtain ⟨o,q1,q2,_⟩:=hlv i hi;unfold at?
       rw [q1,q2]
      intro C w us hus hM n;have h1':rnM 0 ids (ids.map (at? M))=some M0:=by rw [he];exact h1
      obtain ⟨hM0,hmp,_⟩:=qO (k:=0) hM hd1 h1';refine (h (C.rn 0 ids) w us (aHj hmp hus h2) hM0 n).mono ?_;rintro e w' ⟨u,rfl,C1,hF,hM1,hr⟩;exact ⟨u,rfl,C.backN C1 (ids++(List.range k).map (base + ·)),bIm hd1 hd2 (fun i hi=>by
       obtain ⟨j,hj,rfl⟩:=fF.1 hi;have hj:=sR.1 hj;have hk:=Nat.le_of_ble_eq_true hk;exact hf2 j (by omega)) h1' (fun i hi=>by
       obtain ⟨o,_,q2,q3⟩:=hlv i hi;exact jC (bJ.1 q2) q3) h3 h4 hM hF hM1 hr⟩
     ·cases hs
    ·cases hs
   ·cases hs
  ·cases hs
 ·cases hs
end
section
variable {dl:Int}{sk dc:Lqq}

noncomputable abbrev eQ:Code:=sub (cd Tryz.f134) [1,1,0,1,0,0]
noncomputable abbrev oB:Code:=sub (cd Tryz.f83) [1,1,1,0,1,0,0]
theorem bHm:0≤(0:Int)∧(0:Int)<5:=by first | decide | simp
theorem bHn:0≤(1:Int)∧(1:Int)<5:=by first | decide | simp
theorem bHo:0≤(2:Int)∧(2:Int)<5:=by first | decide | simp
theorem bHp:0≤(3:Int)∧(3:Int)<5:=by first | decide | simp
theorem bHq:0≤(4:Int)∧(4:Int)<5:=by first | decide | simp
abbrev zA(dl:Int)(sk dc:Lqq)(ov:PV)(x:List Int)(bib:Int)(b:Bool)(T T2:Lqb):Prop:=FMM Tp 136 [fP,.p (.agg (x.map aA)),.p (aA bib)] (dG dl sk dc ov T) (pB b) (dG dl sk dc ov T2)
abbrev aDq(dl:Int)(sk dc:Lqq)(ov:PV)(s:List Int)(n:Int)(b:Bool)(T T2:Lqb):Prop:=FMM Tp 134 [oU dl sk dc,.p (.agg (s.map aA)),fP] (dG dl sk dc ov T) (.tup [.p (aA n),.p (blP b)]) (dG dl sk dc ov T2)
abbrev aLq(g:Nat)(dl:Int)(sk dc:Lqq)(ov:PV)(x:List Int)(b:Bool)(T T2:Lqb):Prop:=FMM Tp g [oU dl sk dc,fP,.p (.agg (x.map aA))] (dG dl sk dc ov T) (pB b) (dG dl sk dc ov T2)
theorem bVi{ov:PV}{T:Lqb}{x0 x1 x2 x3 x4 x5 bib:Int}{b0:Bool}{T1:Lqb}(h0:(decide (x1≤4))=true)(h1:x3=bib)(h2:qL dl sk dc ov [x0,x1,x2,x3,x4,x5] b0 T T1)(h3:b0=true)(h4:x1≠4):FMM Tp 136 [fP,(.p (dcE x0 x1 x2 x3 x4 x5)),(pI bib)] (dG dl sk dc ov T) (pB true) (dG dl sk dc ov T1):=by
 exact FMM.fin (k:=7) (g:=⟨[],[],[],[]⟩) rfl Tryz.func136 rfl (o:=[.c (pB (decide (x1≤4))) [],bT,bT,bT,bT,bT,bT,bT,bT,bT,.c (pB b0) (vU dl sk dc ov T1),bT,bT,bT,bT,bT,bT,bT,bT,bT,bT,bT,bT]) (l:=[_,_,_,_,_,_,_,_,_,_,_,_,FC Tp 154 [(.p (dcE x0 x1 x2 x3 x4 x5)),(.ptr 4 0),(.ptr 5 0),(.ptr 0 0),(.ptr 2 0)] [(4,(.box 207 [(.mp 3)])),(5,(vB5 dl sk dc)),(0,(vB0 dl sk dc)),(2,vB2),(3,(.mp (aF T) T.length)),(6,vB6),(1,(.box 33 [(.p ov)]))] 9 (pB b0) (vU dl sk dc ov T1),_,_,_,_,_,_,_,_,_,_]) (by kernel_rfl) (gc h3 (gc (iD h4) (gc h3 (g4c (iD h4) (g4c h3 (gc (cC h1) (gc (FMM.fc (ids:=[0,1,2,3,4,5,6]) h2 (by kernel_rfl)) (g4c (cC h1) (g5c h0 (gc (fk 9 (eV x1) rfl) gn))))))))))
theorem bVj{ov:PV}{T:Lqb}{x0 x1 x2 x3 x4 x5 bib:Int}{b0:Bool}{T1:Lqb}{b2:Bool}{T3:Lqb}(h0:(decide (x1≤4))=true)(h1:x3=bib)(h2:qL dl sk dc ov [x0,x1,x2,x3,x4,x5] b0 T T1)(h3:b0=true)(h4:x1=4)(h5:bMp dl sk dc ov [x0,x1,x2,x3,x4,x5] b2 T1 T3):FMM Tp 136 [fP,(.p (dcE x0 x1 x2 x3 x4 x5)),(pI bib)] (dG dl sk dc ov T) (pB b2) (dG dl sk dc ov T3):=by
 exact FMM.fin (k:=7) (g:=⟨[],[],[],[]⟩) rfl Tryz.func136 rfl (o:=[.c (pB (decide (x1≤4))) [],bT,bT,bT,bT,bT,bT,bT,bT,bT,.c (pB b0) (vU dl sk dc ov T1),bT,bT,bT,bT,bT,bF,bF,bF,bF,.c (pB b2) (vU dl sk dc ov T3),bT,bF,bT]) (l:=[_,_,_,FC Tp 157 [(.p (dcE x0 x1 x2 x3 x4 x5)),(.ptr 2 0),(.ptr 1 0)] [(2,vB2),(1,(.box 33 [(.p ov)])),(4,(.box 207 [(.mp 3)])),(5,(vB5 dl sk dc)),(0,(vB0 dl sk dc)),(6,vB6),(3,(.mp (aF T1) T1.length))] 9 (pB b2) (vU dl sk dc ov T3),_,_,_,_,_,_,_,_,_,FC Tp 154 [(.p (dcE x0 x1 x2 x3 x4 x5)),(.ptr 4 0),(.ptr 5 0),(.ptr 0 0),(.ptr 2 0)] [(4,(.box 207 [(.mp 3)])),(5,(vB5 dl sk dc)),(0,(vB0 dl sk dc)),(2,vB2),(3,(.mp (aF T) T.length)),(6,vB6),(1,(.box 33 [(.p ov)]))] 9 (pB b0) (vU dl sk dc ov T1),_,_,_,_,_,_,_,_,_,_]) (by kernel_rfl) (gc h3 (gc (cT h4) (gc h3 (gc (FMM.fc (ids:=[0,1,2,3,4,5,6]) h5 (by kernel_rfl)) (g4c (cT h4) (g4c h3 (gc (cC h1) (gc (FMM.fc (ids:=[0,1,2,3,4,5,6]) h2 (by kernel_rfl)) (g4c (cC h1) (g5c h0 (gc (fk 9 (eV x1) rfl) gn)))))))))))
theorem bVk{ov:PV}{T:Lqb}{x0 x1 x2 x3 x4 x5 bib:Int}{b0:Bool}{T1:Lqb}(h0:(decide (x1≤4))=true)(h1:x3=bib)(h2:qL dl sk dc ov [x0,x1,x2,x3,x4,x5] b0 T T1)(h3:b0=false):FMM Tp 136 [fP,(.p (dcE x0 x1 x2 x3 x4 x5)),(pI bib)] (dG dl sk dc ov T) (pB false) (dG dl sk dc ov T1):=by
 exact FMM.fin (k:=7) (g:=⟨[],[],[],[]⟩) rfl Tryz.func136 rfl (o:=[.c (pB (decide (x1≤4))) [],bT,bT,bT,bT,bT,bT,bT,bT,bT,.c (pB b0) (vU dl sk dc ov T1),bT,bF,bF,bF,bF,bF,bF]) (l:=[_,_,_,_,_,_,_,FC Tp 154 [(.p (dcE x0 x1 x2 x3 x4 x5)),(.ptr 4 0),(.ptr 5 0),(.ptr 0 0),(.ptr 2 0)] [(4,(.box 207 [(.mp 3)])),(5,(vB5 dl sk dc)),(0,(vB0 dl sk dc)),(2,vB2),(3,(.mp (aF T) T.length)),(6,vB6),(1,(.box 33 [(.p ov)]))] 9 (pB b0) (vU dl sk dc ov T1),_,_,_,_,_,_,_,_,_,_]) (by kernel_rfl) (g6c h3 (gc (cC h1) (gc (FMM.fc (ids:=[0,1,2,3,4,5,6]) h2 (by kernel_rfl)) (g4c (cC h1) (g5c h0 (gc (fk 9 (eV x1) rfl) gn))))))
theorem bVl{ov:PV}{T:Lqb}{x0 x1 x2 x3 x4 x5 bib:Int}(h0:(decide (x1≤4))=true)(h1:x3≠bib):FMM Tp 136 [fP,(.p (dcE x0 x1 x2 x3 x4 x5)),(pI bib)] (dG dl sk dc ov T) (pB false) (dG dl sk dc ov T):=by
 exact FMM.fin (k:=7) (g:=⟨[],[],[],[]⟩) rfl Tryz.func136 rfl (o:=[.c (pB (decide (x1≤4))) [],bT,bT,bT,bT,bT,bF,bF,bF,bF,bF]) (l:=[_,_,_,_,_,_,_,_,_,_,_]) (by kernel_rfl) (g5c (bE h1) (g5c h0 (gc (fk 9 (eV x1) rfl) gn)))
theorem bVm{ov:PV}{T:Lqb}{x0 x1 x2 x3 x4 x5 bib:Int}(h0:(decide (x1≤4))=false):FMM Tp 136 [fP,(.p (dcE x0 x1 x2 x3 x4 x5)),(pI bib)] (dG dl sk dc ov T) (pB false) (dG dl sk dc ov T):=by
 exact FMM.fin (k:=7) (g:=⟨[],[],[],[]⟩) rfl Tryz.func136 rfl (o:=[.c (pB (decide (x1≤4))) [],bF,bF,bF,bF,bF]) (l:=[_,_,_,_,_,_]) (by kernel_rfl) (g5c h0 (gc (fk 9 (eV x1) rfl) gn))
theorem bVn{a b r0:Int}(h0:inR (a+b))(er0:r0=(a+b)){base:Nat}:FV Tp 212 [(pI a),(pI b)] base (pI r0) []:=by
 subst er0;exact FV.fin Tryz.func212 rfl (o:=[]) (l:=[_]) (by kernel_rfl) (gc h0 gn)
theorem bVo{a b r0:Int}(h0:inR (a-b))(er0:r0=(a-b)){base:Nat}:FV Tp 213 [(pI a),(pI b)] base (pI r0) []:=by
 subst er0;exact FV.fin Tryz.func213 rfl (o:=[]) (l:=[_]) (by kernel_rfl) (gc h0 gn)
theorem bVp{a b r0:Int}(h0:inR ((1200:Int)*b))(h1:inR (a+((1200:Int)*b)))(er0:r0=(a+((1200:Int)*b))){base:Nat}:FV Tp 214 [(pI a),(pI b)] base (pI r0) []:=by
 subst er0;exact FV.fin Tryz.func214 rfl (o:=[]) (l:=[_,_]) (by kernel_rfl) (gc h1 (gc h0 gn))
theorem bVq{a b:Int}{base:Nat}:FV Tp 215 [(pI a),(pI b)] base (pI a) []:=by
 exact FV.fin Tryz.func215 rfl (o:=[]) (l:=[]) (by kernel_rfl) (gn)
theorem aHx(a b:Int)(h:inR (a+b)){base:Nat}:FV Tp 212 [.p (aA a),.p (aA b)] base (pI (a+b)) []:=bVn h rfl
theorem bHr(a b:Int)(h:inR (a-b)){base:Nat}:FV Tp 213 [.p (aA a),.p (aA b)] base (pI (a-b)) []:=bVo h rfl
theorem bHs(a b:Int)(h:inR (1200*b)∧inR (a+1200*b)){base:Nat}:FV Tp 214 [.p (aA a),.p (aA b)] base (pI (a+1200*b)) []:=bVp h.1 h.2 rfl
theorem bHt(a b:Int){base:Nat}:FV Tp 215 [.p (aA a),.p (aA b)] base (pI a) []:=bVq
theorem oC{base:Nat}:FV Tp 183 [] base (.agg [(.fn 212 [] []),(.fn 213 [] []),(.fn 214 [] []),(.fn 215 [] []),(.fn 212 [] [])]) []:=by
 exact FV.fin Tryz.func183 rfl (o:=[]) (l:=[]) (by kernel_rfl) (gn)
def pY(l:List Int)(m:Int)(i:Nat):St:=⟨fr 18 [(0,(pI m)),(4,(pI 0)),(7,(.p (aG l))),(8,(pI (l.length:Int))),(9,(pI (i:Int)))],[]⟩
theorem bVr{a:Int}{l:List Int}{m'0:Int}{i'1:Nat}(hl0:aE Tp 0 (sub (cd Tryz.f184) [1,0,1,0,0]) (pY l a 0) (.exit 0) (pY l m'0 i'1)){base:Nat}:FV Tp 184 [(pI a),(.p (aG l))] base (pI m'0) []:=by
 exact FV.fin Tryz.func184 rfl (o:=[.k 6 ⟨(rng [(1,3),(5,2),(10,7)]),[],[],[]⟩ (.exit 0) (pY l m'0 i'1)]) (l:=[_]) (by kernel_rfl) (gc hl0.code gn)
theorem bAn{l:List Int}{m:Int}{i:Nat}{x100 m':Int}{i':Nat}(h0:(i:Int)<(l.length:Int))(h1:l[i]? = some x100)(h2:inR (((i+1):Nat):Int))(em':m'=(if x100 > m then x100 else m))(ei':i'=(i+1)):aC Tp 0 (sub (cd Tryz.f184) [1,0,1,0,0]) (pY l m i) .normal (pY l m' i'):=by
 subst em' ei';exact aC.fin (g:=⟨(rng [(1,3),(5,2),(10,7)]),[],[],[]⟩) (o:=[bT,.x (aA x100)]) (l:=[_,_,_,_]) (by kernel_rfl) (gc h2 (gc (atm aA h1) (gc (ixn aA h1) (gc (aQ h0) gn))))
theorem bAo{l:List Int}{m:Int}{i:Nat}(h0:(l.length:Int)≤(i:Int)):aC Tp 0 (sub (cd Tryz.f184) [1,0,1,0,0]) (pY l m i) (.exit 0) (pY l m i):=by
 exact aC.fin (g:=⟨(rng [(1,3),(5,2),(10,7)]),[],[],[]⟩) (o:=[bF]) (l:=[_]) (by kernel_rfl) (gc (aR h0) gn)
def zB(a:Int)(l:List Int):Int:=l.foldl (fun m x=>if x > m then x else m) a
theorem aQg(a:Int)(l:List Int)(hl:l.length≤1000){base:Nat}:FV Tp 184 [.p (aA a),.p (aG l)] base (pI (zB a l)) [] :=
 bVr (aE.range (P:=Tp) (k:=0) (e := .exit 0) (fun i m=>pY l m i) (fun m=>pY l m l.length) (fun m x=>if x > m then x else m) (fun _ _=>True) (by simp) l trivial
  (fun i x acc hx _=>⟨trivial,bAn (by have:=aT hx;omega) hx (aO (by have:=aT hx;omega)) rfl rfl⟩) (fun acc _=>bAo (by omega)))
def bR(dl:Int)(sk:Lqq)(dc:Lqq)(ov:PV)(s0:Int)(s1:Int)(out:Bool)(tot:Int)(i:Nat)(te:List (Value × PV))(tk:Nat):St:=⟨fr 54 [(4,(.ptr 7 0)),(5,(.ptr 8 0)),(6,(pI 0)),(7,(.kb false)),(8,(pB out)),(9,(pI tot)),(21,(.p (fS dc))),(22,(pI (dc.length:Int))),(23,(pI (i:Int)))],[some (vB0 dl sk dc),some (.box 33 [(.p ov)]),some vB2,some (.mp te tk),some (.box 207 [(.mp 3)]),some (vB5 dl sk dc),some vB6,some (.box 31 [(pI s0),(pI s1)]),some vB2]⟩
theorem bVs{ov:PV}{T:Lqb}{s0 s1:Int}{out'0:Bool}{tot'1:Int}{i'2:Nat}{t'3:Lqb}(hl0:aE Tp 7 eQ (bR dl sk dc ov s0 s1 (s1 == (-1:Int)) s1 0 (aF T) T.length) (.exit 0) (bR dl sk dc ov s0 s1 out'0 tot'1 i'2 (aF t'3) t'3.length))(h1:out'0=true):FMM Tp 134 [(.rp (aI dl sk dc) 0),(.p (.agg [(aA s0),(aA s1)])),fP] (dG dl sk dc ov T) (.tup [(pI 0),(pB true)]) (dG dl sk dc ov t'3):=by
 exact FMM.fin (k:=7) (g:=⟨[],[],[],[]⟩) rfl Tryz.func134 rfl (o:=[.x (fS dc),.k 1 ⟨(rng [(0,4),(10,11),(24,26)]),[7,8],[],[]⟩ (.exit 0) (bR dl sk dc ov s0 s1 out'0 tot'1 i'2 (aF t'3) t'3.length),bT]) (l:=[_,_,(aI dl sk dc)[2]? = some (fS dc)]) (by kernel_rfl) (gc h1 (gc hl0.code (gc rfl gn)))
theorem bVt{ov:PV}{T:Lqb}{s0 s1:Int}{out'0:Bool}{tot'1:Int}{i'2:Nat}{t'3:Lqb}{r0:Int}(hl0:aE Tp 7 eQ (bR dl sk dc ov s0 s1 (s1 == (-1:Int)) s1 0 (aF T) T.length) (.exit 0) (bR dl sk dc ov s0 s1 out'0 tot'1 i'2 (aF t'3) t'3.length))(h1:out'0=false)(h2:([tot'1]:List Int).length≤1000)(er0:r0=(zB (0:Int) ([tot'1]:List Int))):FMM Tp 134 [(.rp (aI dl sk dc) 0),(.p (.agg [(aA s0),(aA s1)])),fP] (dG dl sk dc ov T) (.tup [(pI r0),(pB false)]) (dG dl sk dc ov t'3):=by
 subst er0;exact FMM.fin (k:=7) (g:=⟨[],[],[],[]⟩) rfl Tryz.func134 rfl (o:=[.x (fS dc),.k 1 ⟨(rng [(0,4),(10,11),(24,26)]),[7,8],[],[]⟩ (.exit 0) (bR dl sk dc ov s0 s1 out'0 tot'1 i'2 (aF t'3) t'3.length),bF,.c (pI (zB (0:Int) ([tot'1]:List Int))) []]) (l:=[FC Tp 184 [(pI 0),(.own 9)] [(9,(.row 3 1 [(aA tot'1)]))] 10 (pI (zB (0:Int) ([tot'1]:List Int))) [],_,_,(aI dl sk dc)[2]? = some (fS dc)]) (by kernel_rfl) (gc (fv (aQg (0:Int) ([tot'1]:List Int) h2)) (gc h1 (gc hl0.code (gc rfl gn))))
theorem bAp{ov:PV}{s0 s1:Int}{out:Bool}{tot:Int}{i:Nat}{t:Lqb}{y100 y102 y103 y104 y105:Int}{b106:Bool}{T107:Lqb}{m108:Int}{T109:Lqb}{tot':Int}{i':Nat}{t':Lqb}(h0:(i:Int)<(dc.length:Int))(h1:dc[i]? = some [y100,(0:Int),y102,y103,y104,y105])(h2:uni 6 dc)(h3:zA dl sk dc ov [y100,(0:Int),y102,y103,y104,y105] s0 b106 t T107)(h4:b106=true)(h5:out=true)(h6:xA dl sk dc ov [y100,(0:Int),y102,y103,y104,y105] m108 T107 T109)(h7:inR (tot+m108))(h8:inR (((i+1):Nat):Int))(etot':tot'=(tot+m108))(ei':i'=(i+1))(et'e:aF t'=(aF T109))(et'k:t'.length=T109.length):aC Tp 7 eQ (bR dl sk dc ov s0 s1 out tot i (aF t) t.length) .normal (bR dl sk dc ov s0 s1 true tot' i' (aF t') t'.length):=by
 subst etot' ei';have raw:aC Tp 7 eQ (bR dl sk dc ov s0 s1 out tot i (aF t) t.length) .normal (bR dl sk dc ov s0 s1 true (tot+m108) (i+1) (aF T109) T109.length):=aC.fin (g:=⟨(rng [(0,4),(10,11),(24,26)]),[7,8],[],[(8,0)]⟩) (o:=[bT,.x (dcE y100 0 y102 y103 y104 y105),.c (pB b106) (vU dl sk dc ov T107),bT,bT,bT,bT,bT,.c (.agg [(.fn 212 [] []),(.fn 213 [] []),(.fn 214 [] []),(.fn 215 [] []),(.fn 212 [] [])]) [],.c (pI m108) (vU dl sk dc ov T109),.c (pI (tot+m108)) []]) (l:=[_,_,FC Tp 160 [(.p (dcE y100 0 y102 y103 y104 y105)),(.ptr 2 0)] [(2,vB2),(4,(.box 207 [(.mp 3)])),(5,(vB5 dl sk dc)),(0,(vB0 dl sk dc)),(6,vB6),(1,(.box 33 [(.p ov)])),(3,(.mp (aF T107) T107.length))] 18 (pI m108) (vU dl sk dc ov T109),_,FC Tp 183 [] [] 10 (.agg [(.fn 212 [] []),(.fn 213 [] []),(.fn 214 [] []),(.fn 215 [] []),(.fn 212 [] [])]) [],_,_,_,_,_,FC Tp 136 [fP,(.p (dcE y100 0 y102 y103 y104 y105)),(pI s0)] [(4,(.box 207 [(.mp 3)])),(5,(vB5 dl sk dc)),(0,(vB0 dl sk dc)),(2,vB2),(6,vB6),(1,(.box 33 [(.p ov)])),(3,(.mp (aF t) t.length))] 10 (pB b106) (vU dl sk dc ov T107),_,_,0≤(i:Int)∧(i:Int)<(dc.length:Int)∧(i*6)<(dc.flatten.map aA).length,_]) (by kernel_rfl) (gc h8 (gc (fk 26 (aHx tot m108 h7) rfl) (gc (FMM.fc (ids:=[0,1,2,3,4,5,6]) h6 (by kernel_rfl)) (gc bHm (gc (FV.fc oC (by kernel_rfl)) (g4c h5 (gc h4 (gc (FMM.fc (ids:=[0,1,2,3,4,5,6]) h3 (by kernel_rfl)) (gc (aL (i:=i) h2 h1) (gc (aW (i:=i) h2 h1) (gc (aV (k:=6) (i:=(i:Int)) (by decide) h2 (kQ1 _) h1) (gc (aQ h0) gn))))))))))))
 exact raw.cast (by rw [et'e,et'k])
theorem bAq{ov:PV}{s0 s1:Int}{out:Bool}{tot:Int}{i:Nat}{t:Lqb}{y100 y102 y103 y104 y105:Int}{b106:Bool}{T107:Lqb}{m108:Int}{T109:Lqb}{out':Bool}{tot':Int}{i':Nat}{t':Lqb}(h0:(i:Int)<(dc.length:Int))(h1:dc[i]? = some [y100,(0:Int),y102,y103,y104,y105])(h2:uni 6 dc)(h3:zA dl sk dc ov [y100,(0:Int),y102,y103,y104,y105] s0 b106 t T107)(h4:b106=true)(h5:out=false)(h6:xA dl sk dc ov [y100,(0:Int),y102,y103,y104,y105] m108 T107 T109)(h7:inR (tot+m108))(h8:inR (((i+1):Nat):Int))(eout':out'=((0:Int) == (3:Int)))(etot':tot'=(tot+m108))(ei':i'=(i+1))(et'e:aF t'=(aF T109))(et'k:t'.length=T109.length):aC Tp 7 eQ (bR dl sk dc ov s0 s1 out tot i (aF t) t.length) .normal (bR dl sk dc ov s0 s1 out' tot' i' (aF t') t'.length):=by
 subst eout' etot' ei';have raw:aC Tp 7 eQ (bR dl sk dc ov s0 s1 out tot i (aF t) t.length) .normal (bR dl sk dc ov s0 s1 ((0:Int) == (3:Int)) (tot+m108) (i+1) (aF T109) T109.length):=aC.fin (g:=⟨(rng [(0,4),(10,11),(24,26)]),[7,8],[],[]⟩) (o:=[bT,.x (dcE y100 0 y102 y103 y104 y105),.c (pB b106) (vU dl sk dc ov T107),bT,bF,bF,bF,bF,.c (.agg [(.fn 212 [] []),(.fn 213 [] []),(.fn 214 [] []),(.fn 215 [] []),(.fn 212 [] [])]) [],.c (pI m108) (vU dl sk dc ov T109),.c (pI (tot+m108)) []]) (l:=[_,_,FC Tp 160 [(.p (dcE y100 0 y102 y103 y104 y105)),(.ptr 2 0)] [(2,vB2),(4,(.box 207 [(.mp 3)])),(5,(vB5 dl sk dc)),(0,(vB0 dl sk dc)),(6,vB6),(1,(.box 33 [(.p ov)])),(3,(.mp (aF T107) T107.length))] 18 (pI m108) (vU dl sk dc ov T109),_,FC Tp 183 [] [] 10 (.agg [(.fn 212 [] []),(.fn 213 [] []),(.fn 214 [] []),(.fn 215 [] []),(.fn 212 [] [])]) [],_,_,_,_,_,FC Tp 136 [fP,(.p (dcE y100 0 y102 y103 y104 y105)),(pI s0)] [(4,(.box 207 [(.mp 3)])),(5,(vB5 dl sk dc)),(0,(vB0 dl sk dc)),(2,vB2),(6,vB6),(1,(.box 33 [(.p ov)])),(3,(.mp (aF t) t.length))] 10 (pB b106) (vU dl sk dc ov T107),_,_,0≤(i:Int)∧(i:Int)<(dc.length:Int)∧(i*6)<(dc.flatten.map aA).length,_]) (by kernel_rfl) (gc h8 (gc (fk 26 (aHx tot m108 h7) rfl) (gc (FMM.fc (ids:=[0,1,2,3,4,5,6]) h6 (by kernel_rfl)) (gc bHm (gc (FV.fc oC (by kernel_rfl)) (g4c h5 (gc h4 (gc (FMM.fc (ids:=[0,1,2,3,4,5,6]) h3 (by kernel_rfl)) (gc (aL (i:=i) h2 h1) (gc (aW (i:=i) h2 h1) (gc (aV (k:=6) (i:=(i:Int)) (by decide) h2 (kQ1 _) h1) (gc (aQ h0) gn))))))))))))
 exact raw.cast (by rw [et'e,et'k])
theorem bAr{ov:PV}{s0 s1:Int}{out:Bool}{tot:Int}{i:Nat}{t:Lqb}{y100 y102 y103 y104 y105:Int}{b106:Bool}{T107:Lqb}{m108:Int}{T109:Lqb}{tot':Int}{i':Nat}{t':Lqb}(h0:(i:Int)<(dc.length:Int))(h1:dc[i]? = some [y100,(1:Int),y102,y103,y104,y105])(h2:uni 6 dc)(h3:zA dl sk dc ov [y100,(1:Int),y102,y103,y104,y105] s0 b106 t T107)(h4:b106=true)(h5:out=true)(h6:xA dl sk dc ov [y100,(1:Int),y102,y103,y104,y105] m108 T107 T109)(h7:inR (tot-m108))(h8:inR (((i+1):Nat):Int))(etot':tot'=(tot-m108))(ei':i'=(i+1))(et'e:aF t'=(aF T109))(et'k:t'.length=T109.length):aC Tp 7 eQ (bR dl sk dc ov s0 s1 out tot i (aF t) t.length) .normal (bR dl sk dc ov s0 s1 true tot' i' (aF t') t'.length):=by
 subst etot' ei';have raw:aC Tp 7 eQ (bR dl sk dc ov s0 s1 out tot i (aF t) t.length) .normal (bR dl sk dc ov s0 s1 true (tot-m108) (i+1) (aF T109) T109.length):=aC.fin (g:=⟨(rng [(0,4),(10,11),(24,26)]),[7,8],[],[(8,0)]⟩) (o:=[bT,.x (dcE y100 1 y102 y103 y104 y105),.c (pB b106) (vU dl sk dc ov T107),bT,bT,bT,bT,bT,.c (.agg [(.fn 212 [] []),(.fn 213 [] []),(.fn 214 [] []),(.fn 215 [] []),(.fn 212 [] [])]) [],.c (pI m108) (vU dl sk dc ov T109),.c (pI (tot-m108)) []]) (l:=[_,_,FC Tp 160 [(.p (dcE y100 1 y102 y103 y104 y105)),(.ptr 2 0)] [(2,vB2),(4,(.box 207 [(.mp 3)])),(5,(vB5 dl sk dc)),(0,(vB0 dl sk dc)),(6,vB6),(1,(.box 33 [(.p ov)])),(3,(.mp (aF T107) T107.length))] 18 (pI m108) (vU dl sk dc ov T109),_,FC Tp 183 [] [] 10 (.agg [(.fn 212 [] []),(.fn 213 [] []),(.fn 214 [] []),(.fn 215 [] []),(.fn 212 [] [])]) [],_,_,_,_,_,FC Tp 136 [fP,(.p (dcE y100 1 y102 y103 y104 y105)),(pI s0)] [(4,(.box 207 [(.mp 3)])),(5,(vB5 dl sk dc)),(0,(vB0 dl sk dc)),(2,vB2),(6,vB6),(1,(.box 33 [(.p ov)])),(3,(.mp (aF t) t.length))] 10 (pB b106) (vU dl sk dc ov T107),_,_,0≤(i:Int)∧(i:Int)<(dc.length:Int)∧(i*6)<(dc.flatten.map aA).length,_]) (by kernel_rfl) (gc h8 (gc (fk 26 (bHr tot m108 h7) rfl) (gc (FMM.fc (ids:=[0,1,2,3,4,5,6]) h6 (by kernel_rfl)) (gc bHn (gc (FV.fc oC (by kernel_rfl)) (g4c h5 (gc h4 (gc (FMM.fc (ids:=[0,1,2,3,4,5,6]) h3 (by kernel_rfl)) (gc (aL (i:=i) h2 h1) (gc (aW (i:=i) h2 h1) (gc (aV (k:=6) (i:=(i:Int)) (by decide) h2 (kQ1 _) h1) (gc (aQ h0) gn))))))))))))
 exact raw.cast (by rw [et'e,et'k])
theorem bAs{ov:PV}{s0 s1:Int}{out:Bool}{tot:Int}{i:Nat}{t:Lqb}{y100 y102 y103 y104 y105:Int}{b106:Bool}{T107:Lqb}{m108:Int}{T109:Lqb}{out':Bool}{tot':Int}{i':Nat}{t':Lqb}(h0:(i:Int)<(dc.length:Int))(h1:dc[i]? = some [y100,(1:Int),y102,y103,y104,y105])(h2:uni 6 dc)(h3:zA dl sk dc ov [y100,(1:Int),y102,y103,y104,y105] s0 b106 t T107)(h4:b106=true)(h5:out=false)(h6:xA dl sk dc ov [y100,(1:Int),y102,y103,y104,y105] m108 T107 T109)(h7:inR (tot-m108))(h8:inR (((i+1):Nat):Int))(eout':out'=((1:Int) == (3:Int)))(etot':tot'=(tot-m108))(ei':i'=(i+1))(et'e:aF t'=(aF T109))(et'k:t'.length=T109.length):aC Tp 7 eQ (bR dl sk dc ov s0 s1 out tot i (aF t) t.length) .normal (bR dl sk dc ov s0 s1 out' tot' i' (aF t') t'.length):=by
 subst eout' etot' ei';have raw:aC Tp 7 eQ (bR dl sk dc ov s0 s1 out tot i (aF t) t.length) .normal (bR dl sk dc ov s0 s1 ((1:Int) == (3:Int)) (tot-m108) (i+1) (aF T109) T109.length):=aC.fin (g:=⟨(rng [(0,4),(10,11),(24,26)]),[7,8],[],[]⟩) (o:=[bT,.x (dcE y100 1 y102 y103 y104 y105),.c (pB b106) (vU dl sk dc ov T107),bT,bF,bF,bF,bF,.c (.agg [(.fn 212 [] []),(.fn 213 [] []),(.fn 214 [] []),(.fn 215 [] []),(.fn 212 [] [])]) [],.c (pI m108) (vU dl sk dc ov T109),.c (pI (tot-m108)) []]) (l:=[_,_,FC Tp 160 [(.p (dcE y100 1 y102 y103 y104 y105)),(.ptr 2 0)] [(2,vB2),(4,(.box 207 [(.mp 3)])),(5,(vB5 dl sk dc)),(0,(vB0 dl sk dc)),(6,vB6),(1,(.box 33 [(.p ov)])),(3,(.mp (aF T107) T107.length))] 18 (pI m108) (vU dl sk dc ov T109),_,FC Tp 183 [] [] 10 (.agg [(.fn 212 [] []),(.fn 213 [] []),(.fn 214 [] []),(.fn 215 [] []),(.fn 212 [] [])]) [],_,_,_,_,_,FC Tp 136 [fP,(.p (dcE y100 1 y102 y103 y104 y105)),(pI s0)] [(4,(.box 207 [(.mp 3)])),(5,(vB5 dl sk dc)),(0,(vB0 dl sk dc)),(2,vB2),(6,vB6),(1,(.box 33 [(.p ov)])),(3,(.mp (aF t) t.length))] 10 (pB b106) (vU dl sk dc ov T107),_,_,0≤(i:Int)∧(i:Int)<(dc.length:Int)∧(i*6)<(dc.flatten.map aA).length,_]) (by kernel_rfl) (gc h8 (gc (fk 26 (bHr tot m108 h7) rfl) (gc (FMM.fc (ids:=[0,1,2,3,4,5,6]) h6 (by kernel_rfl)) (gc bHn (gc (FV.fc oC (by kernel_rfl)) (g4c h5 (gc h4 (gc (FMM.fc (ids:=[0,1,2,3,4,5,6]) h3 (by kernel_rfl)) (gc (aL (i:=i) h2 h1) (gc (aW (i:=i) h2 h1) (gc (aV (k:=6) (i:=(i:Int)) (by decide) h2 (kQ1 _) h1) (gc (aQ h0) gn))))))))))))
 exact raw.cast (by rw [et'e,et'k])
theorem bAt{ov:PV}{s0 s1:Int}{out:Bool}{tot:Int}{i:Nat}{t:Lqb}{y100 y102 y103 y104 y105:Int}{b106:Bool}{T107:Lqb}{m108:Int}{T109:Lqb}{tot':Int}{i':Nat}{t':Lqb}(h0:(i:Int)<(dc.length:Int))(h1:dc[i]? = some [y100,(2:Int),y102,y103,y104,y105])(h2:uni 6 dc)(h3:zA dl sk dc ov [y100,(2:Int),y102,y103,y104,y105] s0 b106 t T107)(h4:b106=true)(h5:out=true)(h6:xA dl sk dc ov [y100,(2:Int),y102,y103,y104,y105] m108 T107 T109)(h7:inR (1200*m108)∧inR (tot+1200*m108))(h8:inR (((i+1):Nat):Int))(etot':tot'=(tot+1200*m108))(ei':i'=(i+1))(et'e:aF t'=(aF T109))(et'k:t'.length=T109.length):aC Tp 7 eQ (bR dl sk dc ov s0 s1 out tot i (aF t) t.length) .normal (bR dl sk dc ov s0 s1 true tot' i' (aF t') t'.length):=by
 subst etot' ei';have raw:aC Tp 7 eQ (bR dl sk dc ov s0 s1 out tot i (aF t) t.length) .normal (bR dl sk dc ov s0 s1 true (tot+1200*m108) (i+1) (aF T109) T109.length):=aC.fin (g:=⟨(rng [(0,4),(10,11),(24,26)]),[7,8],[],[(8,0)]⟩) (o:=[bT,.x (dcE y100 2 y102 y103 y104 y105),.c (pB b106) (vU dl sk dc ov T107),bT,bT,bT,bT,bT,.c (.agg [(.fn 212 [] []),(.fn 213 [] []),(.fn 214 [] []),(.fn 215 [] []),(.fn 212 [] [])]) [],.c (pI m108) (vU dl sk dc ov T109),.c (pI (tot+1200*m108)) []]) (l:=[_,_,FC Tp 160 [(.p (dcE y100 2 y102 y103 y104 y105)),(.ptr 2 0)] [(2,vB2),(4,(.box 207 [(.mp 3)])),(5,(vB5 dl sk dc)),(0,(vB0 dl sk dc)),(6,vB6),(1,(.box 33 [(.p ov)])),(3,(.mp (aF T107) T107.length))] 18 (pI m108) (vU dl sk dc ov T109),_,FC Tp 183 [] [] 10 (.agg [(.fn 212 [] []),(.fn 213 [] []),(.fn 214 [] []),(.fn 215 [] []),(.fn 212 [] [])]) [],_,_,_,_,_,FC Tp 136 [fP,(.p (dcE y100 2 y102 y103 y104 y105)),(pI s0)] [(4,(.box 207 [(.mp 3)])),(5,(vB5 dl sk dc)),(0,(vB0 dl sk dc)),(2,vB2),(6,vB6),(1,(.box 33 [(.p ov)])),(3,(.mp (aF t) t.length))] 10 (pB b106) (vU dl sk dc ov T107),_,_,0≤(i:Int)∧(i:Int)<(dc.length:Int)∧(i*6)<(dc.flatten.map aA).length,_]) (by kernel_rfl) (gc h8 (gc (fk 26 (bHs tot m108 h7) rfl) (gc (FMM.fc (ids:=[0,1,2,3,4,5,6]) h6 (by kernel_rfl)) (gc bHo (gc (FV.fc oC (by kernel_rfl)) (g4c h5 (gc h4 (gc (FMM.fc (ids:=[0,1,2,3,4,5,6]) h3 (by kernel_rfl)) (gc (aL (i:=i) h2 h1) (gc (aW (i:=i) h2 h1) (gc (aV (k:=6) (i:=(i:Int)) (by decide) h2 (kQ1 _) h1) (gc (aQ h0) gn))))))))))))
 exact raw.cast (by rw [et'e,et'k])
theorem bAu{ov:PV}{s0 s1:Int}{out:Bool}{tot:Int}{i:Nat}{t:Lqb}{y100 y102 y103 y104 y105:Int}{b106:Bool}{T107:Lqb}{m108:Int}{T109:Lqb}{out':Bool}{tot':Int}{i':Nat}{t':Lqb}(h0:(i:Int)<(dc.length:Int))(h1:dc[i]? = some [y100,(2:Int),y102,y103,y104,y105])(h2:uni 6 dc)(h3:zA dl sk dc ov [y100,(2:Int),y102,y103,y104,y105] s0 b106 t T107)(h4:b106=true)(h5:out=false)(h6:xA dl sk dc ov [y100,(2:Int),y102,y103,y104,y105] m108 T107 T109)(h7:inR (1200*m108)∧inR (tot+1200*m108))(h8:inR (((i+1):Nat):Int))(eout':out'=((2:Int) == (3:Int)))(etot':tot'=(tot+1200*m108))(ei':i'=(i+1))(et'e:aF t'=(aF T109))(et'k:t'.length=T109.length):aC Tp 7 eQ (bR dl sk dc ov s0 s1 out tot i (aF t) t.length) .normal (bR dl sk dc ov s0 s1 out' tot' i' (aF t') t'.length):=by
 subst eout' etot' ei';have raw:aC Tp 7 eQ (bR dl sk dc ov s0 s1 out tot i (aF t) t.length) .normal (bR dl sk dc ov s0 s1 ((2:Int) == (3:Int)) (tot+1200*m108) (i+1) (aF T109) T109.length):=aC.fin (g:=⟨(rng [(0,4),(10,11),(24,26)]),[7,8],[],[]⟩) (o:=[bT,.x (dcE y100 2 y102 y103 y104 y105),.c (pB b106) (vU dl sk dc ov T107),bT,bF,bF,bF,bF,.c (.agg [(.fn 212 [] []),(.fn 213 [] []),(.fn 214 [] []),(.fn 215 [] []),(.fn 212 [] [])]) [],.c (pI m108) (vU dl sk dc ov T109),.c (pI (tot+1200*m108)) []]) (l:=[_,_,FC Tp 160 [(.p (dcE y100 2 y102 y103 y104 y105)),(.ptr 2 0)] [(2,vB2),(4,(.box 207 [(.mp 3)])),(5,(vB5 dl sk dc)),(0,(vB0 dl sk dc)),(6,vB6),(1,(.box 33 [(.p ov)])),(3,(.mp (aF T107) T107.length))] 18 (pI m108) (vU dl sk dc ov T109),_,FC Tp 183 [] [] 10 (.agg [(.fn 212 [] []),(.fn 213 [] []),(.fn 214 [] []),(.fn 215 [] []),(.fn 212 [] [])]) [],_,_,_,_,_,FC Tp 136 [fP,(.p (dcE y100 2 y102 y103 y104 y105)),(pI s0)] [(4,(.box 207 [(.mp 3)])),(5,(vB5 dl sk dc)),(0,(vB0 dl sk dc)),(2,vB2),(6,vB6),(1,(.box 33 [(.p ov)])),(3,(.mp (aF t) t.length))] 10 (pB b106) (vU dl sk dc ov T107),_,_,0≤(i:Int)∧(i:Int)<(dc.length:Int)∧(i*6)<(dc.flatten.map aA).length,_]) (by kernel_rfl) (gc h8 (gc (fk 26 (bHs tot m108 h7) rfl) (gc (FMM.fc (ids:=[0,1,2,3,4,5,6]) h6 (by kernel_rfl)) (gc bHo (gc (FV.fc oC (by kernel_rfl)) (g4c h5 (gc h4 (gc (FMM.fc (ids:=[0,1,2,3,4,5,6]) h3 (by kernel_rfl)) (gc (aL (i:=i) h2 h1) (gc (aW (i:=i) h2 h1) (gc (aV (k:=6) (i:=(i:Int)) (by decide) h2 (kQ1 _) h1) (gc (aQ h0) gn))))))))))))
 exact raw.cast (by rw [et'e,et'k])
theorem bAv{ov:PV}{s0 s1:Int}{out:Bool}{tot:Int}{i:Nat}{t:Lqb}{y100 y102 y103 y104 y105:Int}{b106:Bool}{T107:Lqb}{m108:Int}{T109:Lqb}{i':Nat}{t':Lqb}(h0:(i:Int)<(dc.length:Int))(h1:dc[i]? = some [y100,(3:Int),y102,y103,y104,y105])(h2:uni 6 dc)(h3:zA dl sk dc ov [y100,(3:Int),y102,y103,y104,y105] s0 b106 t T107)(h4:b106=true)(h5:out=true)(h6:xA dl sk dc ov [y100,(3:Int),y102,y103,y104,y105] m108 T107 T109)(h7:inR (((i+1):Nat):Int))(ei':i'=(i+1))(et'e:aF t'=(aF T109))(et'k:t'.length=T109.length):aC Tp 7 eQ (bR dl sk dc ov s0 s1 out tot i (aF t) t.length) .normal (bR dl sk dc ov s0 s1 true tot i' (aF t') t'.length):=by
 subst ei';have raw:aC Tp 7 eQ (bR dl sk dc ov s0 s1 out tot i (aF t) t.length) .normal (bR dl sk dc ov s0 s1 true tot (i+1) (aF T109) T109.length):=aC.fin (g:=⟨(rng [(0,4),(10,11),(24,26)]),[7,8],[],[(8,0)]⟩) (o:=[bT,.x (dcE y100 3 y102 y103 y104 y105),.c (pB b106) (vU dl sk dc ov T107),bT,bT,bT,bT,bT,.c (.agg [(.fn 212 [] []),(.fn 213 [] []),(.fn 214 [] []),(.fn 215 [] []),(.fn 212 [] [])]) [],.c (pI m108) (vU dl sk dc ov T109),.c (pI tot) []]) (l:=[_,_,FC Tp 160 [(.p (dcE y100 3 y102 y103 y104 y105)),(.ptr 2 0)] [(2,vB2),(4,(.box 207 [(.mp 3)])),(5,(vB5 dl sk dc)),(0,(vB0 dl sk dc)),(6,vB6),(1,(.box 33 [(.p ov)])),(3,(.mp (aF T107) T107.length))] 18 (pI m108) (vU dl sk dc ov T109),_,FC Tp 183 [] [] 10 (.agg [(.fn 212 [] []),(.fn 213 [] []),(.fn 214 [] []),(.fn 215 [] []),(.fn 212 [] [])]) [],_,_,_,_,_,FC Tp 136 [fP,(.p (dcE y100 3 y102 y103 y104 y105)),(pI s0)] [(4,(.box 207 [(.mp 3)])),(5,(vB5 dl sk dc)),(0,(vB0 dl sk dc)),(2,vB2),(6,vB6),(1,(.box 33 [(.p ov)])),(3,(.mp (aF t) t.length))] 10 (pB b106) (vU dl sk dc ov T107),_,_,0≤(i:Int)∧(i:Int)<(dc.length:Int)∧(i*6)<(dc.flatten.map aA).length,_]) (by kernel_rfl) (gc h7 (gc (fk 26 (bHt tot m108) rfl) (gc (FMM.fc (ids:=[0,1,2,3,4,5,6]) h6 (by kernel_rfl)) (gc bHp (gc (FV.fc oC (by kernel_rfl)) (g4c h5 (gc h4 (gc (FMM.fc (ids:=[0,1,2,3,4,5,6]) h3 (by kernel_rfl)) (gc (aL (i:=i) h2 h1) (gc (aW (i:=i) h2 h1) (gc (aV (k:=6) (i:=(i:Int)) (by decide) h2 (kQ1 _) h1) (gc (aQ h0) gn))))))))))))
 exact raw.cast (by rw [et'e,et'k])
theorem bAw{ov:PV}{s0 s1:Int}{out:Bool}{tot:Int}{i:Nat}{t:Lqb}{y100 y102 y103 y104 y105:Int}{b106:Bool}{T107:Lqb}{m108:Int}{T109:Lqb}{out':Bool}{i':Nat}{t':Lqb}(h0:(i:Int)<(dc.length:Int))(h1:dc[i]? = some [y100,(3:Int),y102,y103,y104,y105])(h2:uni 6 dc)(h3:zA dl sk dc ov [y100,(3:Int),y102,y103,y104,y105] s0 b106 t T107)(h4:b106=true)(h5:out=false)(h6:xA dl sk dc ov [y100,(3:Int),y102,y103,y104,y105] m108 T107 T109)(h7:inR (((i+1):Nat):Int))(eout':out'=((3:Int) == (3:Int)))(ei':i'=(i+1))(et'e:aF t'=(aF T109))(et'k:t'.length=T109.length):aC Tp 7 eQ (bR dl sk dc ov s0 s1 out tot i (aF t) t.length) .normal (bR dl sk dc ov s0 s1 out' tot i' (aF t') t'.length):=by
 subst eout' ei';have raw:aC Tp 7 eQ (bR dl sk dc ov s0 s1 out tot i (aF t) t.length) .normal (bR dl sk dc ov s0 s1 ((3:Int) == (3:Int)) tot (i+1) (aF T109) T109.length):=aC.fin (g:=⟨(rng [(0,4),(10,11),(24,26)]),[7,8],[],[]⟩) (o:=[bT,.x (dcE y100 3 y102 y103 y104 y105),.c (pB b106) (vU dl sk dc ov T107),bT,bF,bF,bF,bF,.c (.agg [(.fn 212 [] []),(.fn 213 [] []),(.fn 214 [] []),(.fn 215 [] []),(.fn 212 [] [])]) [],.c (pI m108) (vU dl sk dc ov T109),.c (pI tot) []]) (l:=[_,_,FC Tp 160 [(.p (dcE y100 3 y102 y103 y104 y105)),(.ptr 2 0)] [(2,vB2),(4,(.box 207 [(.mp 3)])),(5,(vB5 dl sk dc)),(0,(vB0 dl sk dc)),(6,vB6),(1,(.box 33 [(.p ov)])),(3,(.mp (aF T107) T107.length))] 18 (pI m108) (vU dl sk dc ov T109),_,FC Tp 183 [] [] 10 (.agg [(.fn 212 [] []),(.fn 213 [] []),(.fn 214 [] []),(.fn 215 [] []),(.fn 212 [] [])]) [],_,_,_,_,_,FC Tp 136 [fP,(.p (dcE y100 3 y102 y103 y104 y105)),(pI s0)] [(4,(.box 207 [(.mp 3)])),(5,(vB5 dl sk dc)),(0,(vB0 dl sk dc)),(2,vB2),(6,vB6),(1,(.box 33 [(.p ov)])),(3,(.mp (aF t) t.length))] 10 (pB b106) (vU dl sk dc ov T107),_,_,0≤(i:Int)∧(i:Int)<(dc.length:Int)∧(i*6)<(dc.flatten.map aA).length,_]) (by kernel_rfl) (gc h7 (gc (fk 26 (bHt tot m108) rfl) (gc (FMM.fc (ids:=[0,1,2,3,4,5,6]) h6 (by kernel_rfl)) (gc bHp (gc (FV.fc oC (by kernel_rfl)) (g4c h5 (gc h4 (gc (FMM.fc (ids:=[0,1,2,3,4,5,6]) h3 (by kernel_rfl)) (gc (aL (i:=i) h2 h1) (gc (aW (i:=i) h2 h1) (gc (aV (k:=6) (i:=(i:Int)) (by decide) h2 (kQ1 _) h1) (gc (aQ h0) gn))))))))))))
 exact raw.cast (by rw [et'e,et'k])
theorem bAx{ov:PV}{s0 s1:Int}{out:Bool}{tot:Int}{i:Nat}{t:Lqb}{y100 y102 y103 y104 y105:Int}{b106:Bool}{T107:Lqb}{m108:Int}{T109:Lqb}{tot':Int}{i':Nat}{t':Lqb}(h0:(i:Int)<(dc.length:Int))(h1:dc[i]? = some [y100,(4:Int),y102,y103,y104,y105])(h2:uni 6 dc)(h3:zA dl sk dc ov [y100,(4:Int),y102,y103,y104,y105] s0 b106 t T107)(h4:b106=true)(h5:out=true)(h6:xA dl sk dc ov [y100,(4:Int),y102,y103,y104,y105] m108 T107 T109)(h7:inR (tot+m108))(h8:inR (((i+1):Nat):Int))(etot':tot'=(tot+m108))(ei':i'=(i+1))(et'e:aF t'=(aF T109))(et'k:t'.length=T109.length):aC Tp 7 eQ (bR dl sk dc ov s0 s1 out tot i (aF t) t.length) .normal (bR dl sk dc ov s0 s1 true tot' i' (aF t') t'.length):=by
 subst etot' ei';have raw:aC Tp 7 eQ (bR dl sk dc ov s0 s1 out tot i (aF t) t.length) .normal (bR dl sk dc ov s0 s1 true (tot+m108) (i+1) (aF T109) T109.length):=aC.fin (g:=⟨(rng [(0,4),(10,11),(24,26)]),[7,8],[],[(8,0)]⟩) (o:=[bT,.x (dcE y100 4 y102 y103 y104 y105),.c (pB b106) (vU dl sk dc ov T107),bT,bT,bT,bT,bT,.c (.agg [(.fn 212 [] []),(.fn 213 [] []),(.fn 214 [] []),(.fn 215 [] []),(.fn 212 [] [])]) [],.c (pI m108) (vU dl sk dc ov T109),.c (pI (tot+m108)) []]) (l:=[_,_,FC Tp 160 [(.p (dcE y100 4 y102 y103 y104 y105)),(.ptr 2 0)] [(2,vB2),(4,(.box 207 [(.mp 3)])),(5,(vB5 dl sk dc)),(0,(vB0 dl sk dc)),(6,vB6),(1,(.box 33 [(.p ov)])),(3,(.mp (aF T107) T107.length))] 18 (pI m108) (vU dl sk dc ov T109),_,FC Tp 183 [] [] 10 (.agg [(.fn 212 [] []),(.fn 213 [] []),(.fn 214 [] []),(.fn 215 [] []),(.fn 212 [] [])]) [],_,_,_,_,_,FC Tp 136 [fP,(.p (dcE y100 4 y102 y103 y104 y105)),(pI s0)] [(4,(.box 207 [(.mp 3)])),(5,(vB5 dl sk dc)),(0,(vB0 dl sk dc)),(2,vB2),(6,vB6),(1,(.box 33 [(.p ov)])),(3,(.mp (aF t) t.length))] 10 (pB b106) (vU dl sk dc ov T107),_,_,0≤(i:Int)∧(i:Int)<(dc.length:Int)∧(i*6)<(dc.flatten.map aA).length,_]) (by kernel_rfl) (gc h8 (gc (fk 26 (aHx tot m108 h7) rfl) (gc (FMM.fc (ids:=[0,1,2,3,4,5,6]) h6 (by kernel_rfl)) (gc bHq (gc (FV.fc oC (by kernel_rfl)) (g4c h5 (gc h4 (gc (FMM.fc (ids:=[0,1,2,3,4,5,6]) h3 (by kernel_rfl)) (gc (aL (i:=i) h2 h1) (gc (aW (i:=i) h2 h1) (gc (aV (k:=6) (i:=(i:Int)) (by decide) h2 (kQ1 _) h1) (gc (aQ h0) gn))))))))))))
 exact raw.cast (by rw [et'e,et'k])
theorem bAy{ov:PV}{s0 s1:Int}{out:Bool}{tot:Int}{i:Nat}{t:Lqb}{y100 y102 y103 y104 y105:Int}{b106:Bool}{T107:Lqb}{m108:Int}{T109:Lqb}{out':Bool}{tot':Int}{i':Nat}{t':Lqb}(h0:(i:Int)<(dc.length:Int))(h1:dc[i]? = some [y100,(4:Int),y102,y103,y104,y105])(h2:uni 6 dc)(h3:zA dl sk dc ov [y100,(4:Int),y102,y103,y104,y105] s0 b106 t T107)(h4:b106=true)(h5:out=false)(h6:xA dl sk dc ov [y100,(4:Int),y102,y103,y104,y105] m108 T107 T109)(h7:inR (tot+m108))(h8:inR (((i+1):Nat):Int))(eout':out'=((4:Int) == (3:Int)))(etot':tot'=(tot+m108))(ei':i'=(i+1))(et'e:aF t'=(aF T109))(et'k:t'.length=T109.length):aC Tp 7 eQ (bR dl sk dc ov s0 s1 out tot i (aF t) t.length) .normal (bR dl sk dc ov s0 s1 out' tot' i' (aF t') t'.length):=by
 subst eout' etot' ei';have raw:aC Tp 7 eQ (bR dl sk dc ov s0 s1 out tot i (aF t) t.length) .normal (bR dl sk dc ov s0 s1 ((4:Int) == (3:Int)) (tot+m108) (i+1) (aF T109) T109.length):=aC.fin (g:=⟨(rng [(0,4),(10,11),(24,26)]),[7,8],[],[]⟩) (o:=[bT,.x (dcE y100 4 y102 y103 y104 y105),.c (pB b106) (vU dl sk dc ov T107),bT,bF,bF,bF,bF,.c (.agg [(.fn 212 [] []),(.fn 213 [] []),(.fn 214 [] []),(.fn 215 [] []),(.fn 212 [] [])]) [],.c (pI m108) (vU dl sk dc ov T109),.c (pI (tot+m108)) []]) (l:=[_,_,FC Tp 160 [(.p (dcE y100 4 y102 y103 y104 y105)),(.ptr 2 0)] [(2,vB2),(4,(.box 207 [(.mp 3)])),(5,(vB5 dl sk dc)),(0,(vB0 dl sk dc)),(6,vB6),(1,(.box 33 [(.p ov)])),(3,(.mp (aF T107) T107.length))] 18 (pI m108) (vU dl sk dc ov T109),_,FC Tp 183 [] [] 10 (.agg [(.fn 212 [] []),(.fn 213 [] []),(.fn 214 [] []),(.fn 215 [] []),(.fn 212 [] [])]) [],_,_,_,_,_,FC Tp 136 [fP,(.p (dcE y100 4 y102 y103 y104 y105)),(pI s0)] [(4,(.box 207 [(.mp 3)])),(5,(vB5 dl sk dc)),(0,(vB0 dl sk dc)),(2,vB2),(6,vB6),(1,(.box 33 [(.p ov)])),(3,(.mp (aF t) t.length))] 10 (pB b106) (vU dl sk dc ov T107),_,_,0≤(i:Int)∧(i:Int)<(dc.length:Int)∧(i*6)<(dc.flatten.map aA).length,_]) (by kernel_rfl) (gc h8 (gc (fk 26 (aHx tot m108 h7) rfl) (gc (FMM.fc (ids:=[0,1,2,3,4,5,6]) h6 (by kernel_rfl)) (gc bHq (gc (FV.fc oC (by kernel_rfl)) (g4c h5 (gc h4 (gc (FMM.fc (ids:=[0,1,2,3,4,5,6]) h3 (by kernel_rfl)) (gc (aL (i:=i) h2 h1) (gc (aW (i:=i) h2 h1) (gc (aV (k:=6) (i:=(i:Int)) (by decide) h2 (kQ1 _) h1) (gc (aQ h0) gn))))))))))))
 exact raw.cast (by rw [et'e,et'k])
theorem aQh{ov:PV}{s0 s1:Int}{out:Bool}{tot:Int}{i:Nat}{t:Lqb}{y100 y101 y102 y103 y104 y105:Int}{b106:Bool}{T107:Lqb}{i':Nat}{t':Lqb}(h0:(i:Int)<(dc.length:Int))(h1:dc[i]? = some [y100,y101,y102,y103,y104,y105])(h2:uni 6 dc)(h3:zA dl sk dc ov [y100,y101,y102,y103,y104,y105] s0 b106 t T107)(h4:b106=false)(h5:inR (((i+1):Nat):Int))(ei':i'=(i+1))(et'e:aF t'=(aF T107))(et'k:t'.length=T107.length):aC Tp 7 eQ (bR dl sk dc ov s0 s1 out tot i (aF t) t.length) .normal (bR dl sk dc ov s0 s1 out tot i' (aF t') t'.length):=by
 subst ei';have raw:aC Tp 7 eQ (bR dl sk dc ov s0 s1 out tot i (aF t) t.length) .normal (bR dl sk dc ov s0 s1 out tot (i+1) (aF T107) T107.length):=aC.fin (g:=⟨(rng [(0,4),(10,11),(24,26)]),[7,8],[],[]⟩) (o:=[bT,.x (dcE y100 y101 y102 y103 y104 y105),.c (pB b106) (vU dl sk dc ov T107),bF]) (l:=[_,_,FC Tp 136 [fP,(.p (dcE y100 y101 y102 y103 y104 y105)),(pI s0)] [(4,(.box 207 [(.mp 3)])),(5,(vB5 dl sk dc)),(0,(vB0 dl sk dc)),(2,vB2),(6,vB6),(1,(.box 33 [(.p ov)])),(3,(.mp (aF t) t.length))] 10 (pB b106) (vU dl sk dc ov T107),_,_,0≤(i:Int)∧(i:Int)<(dc.length:Int)∧(i*6)<(dc.flatten.map aA).length,_]) (by kernel_rfl) (gc h5 (gc h4 (gc (FMM.fc (ids:=[0,1,2,3,4,5,6]) h3 (by kernel_rfl)) (gc (aL (i:=i) h2 h1) (gc (aW (i:=i) h2 h1) (gc (aV (k:=6) (i:=(i:Int)) (by decide) h2 (kQ1 _) h1) (gc (aQ h0) gn)))))))
 exact raw.cast (by rw [et'e,et'k])
theorem aQi{ov:PV}{s0 s1:Int}{out:Bool}{tot:Int}{i:Nat}{t:Lqb}(h0:(dc.length:Int)≤(i:Int)):aC Tp 7 eQ (bR dl sk dc ov s0 s1 out tot i (aF t) t.length) (.exit 0) (bR dl sk dc ov s0 s1 out tot i (aF t) t.length):=by
 exact aC.fin (g:=⟨(rng [(0,4),(10,11),(24,26)]),[7,8],[],[]⟩) (o:=[bF]) (l:=[_]) (by kernel_rfl) (gc (aR h0) gn)
def fB(dl:Int)(sk:Lqq)(dc:Lqq)(on:Nat)(oc:List PV)(i:Nat)(te:List (Value × PV))(tk:Nat):St:=⟨fr 48 [(2,(.p bI)),(3,(.ptr 7 0)),(4,(.own 8)),(15,(.p (fS dc))),(16,(pI (dc.length:Int))),(17,(pI (i:Int)))],[some (vB0 dl sk dc),some (.box 33 [(.p bI)]),some vB2,some (.mp te tk),some (.box 207 [(.mp 3)]),some (vB5 dl sk dc),some vB6,some vB2,some (.row 3 on oc)]⟩
theorem bVu{o'0:List Int}{i'1:Nat}{t'2:Lqb}(hl0:aE Tp 0 oB (fB dl sk dc 0 [] 0 (aF ([]:Lqb)) 0) (.exit 0) (fB dl sk dc o'0.length (o'0.map aA) i'1 (aF t'2) t'2.length)){base:Nat}:FV Tp 83 [(.rp (aI dl sk dc) 0)] base (.own base) [(base,(.row 3 o'0.length (o'0.map aA)))]:=by
 exact FV.fin Tryz.func83 rfl (o:=[.c fP (vU dl sk dc bI ([]:Lqb)),.x (fS dc),.k 1 ⟨(rng [(0,2),(5,10),(18,29)]),[0,1,2,3,4,5,6,7,8],[],[(4,3)]⟩ (.exit 0) (fB dl sk dc o'0.length (o'0.map aA) i'1 (aF t'2) t'2.length)]) (l:=[_,(aI dl sk dc)[2]? = some (fS dc),FC Tp 87 [(.rp (aI dl sk dc) 0),(.p bI)] [] 0 fP (vU dl sk dc bI ([]:Lqb))]) (by kernel_rfl) (gc hl0.code (gc rfl (gc (FMM.fcN (k:=7) rfl (ids:=[]) (sM (dl:=dl) (sk:=sk) (dc:=dc)) (by kernel_rfl)) gn)))
theorem bAz{o:List Int}{i:Nat}{t:Lqb}{y100 y101 y102 y103 y104 y105 z106 z107 z108 z109 z110 z111:Int}{b112:Bool}{T113:Lqb}{b114:Bool}{T115:Lqb}{o':List Int}{i':Nat}{t':Lqb}(h0:(i:Int)<(dc.length:Int))(h1:dc[i]? = some [y100,y101,y102,y103,y104,y105])(h2:uni 6 dc)(h3:aLr dl sk dc bI [y100,y101,y102,y103,y104,y105] [z106,z107,z108,z109,z110,z111] b112 t T113)(h4:(eM y101)=true)(h5:qL dl sk dc bI [y100,y101,y102,y103,y104,y105] b114 T113 T115)(h6:b114=true)(h7:b112=false)(h8:[(aA y100)].length=1*1∧o.length+1≤1000000)(h9:inR (((i+1):Nat):Int))(eo'n:o'.length=(o.length+1))(eo'c:o'.map aA=((o.map aA)++[(aA y100)]))(ei':i'=(i+1))(et'e:aF t'=(aF T115))(et'k:t'.length=T115.length):aC Tp 0 oB (fB dl sk dc o.length (o.map aA) i (aF t) t.length) .normal (fB dl sk dc o'.length (o'.map aA) i' (aF t') t'.length):=by
 subst ei';have raw:aC Tp 0 oB (fB dl sk dc o.length (o.map aA) i (aF t) t.length) .normal (fB dl sk dc (o.length+1) ((o.map aA)++[(aA y100)]) (i+1) (aF T115) T115.length):=aC.fin (g:=⟨(rng [(0,2),(5,10),(18,29)]),[0,1,2,3,4,5,6,7,12],[],[]⟩) (o:=[bT,.x (dcE y100 y101 y102 y103 y104 y105),.c (.tup [(.p (dcE z106 z107 z108 z109 z110 z111)),(pB b112)]) (vU dl sk dc bI T113),.c (pB (eM y101)) [],bT,bT,bT,bT,.c (pB b114) (vU dl sk dc bI T115),bT,bT,bT,bT,bT]) (l:=[_,_,_,_,_,_,_,FC Tp 154 [(.p (dcE y100 y101 y102 y103 y104 y105)),(.ptr 4 0),(.ptr 5 0),(.ptr 0 0),(.ptr 2 0)] [(4,(.box 207 [(.mp 3)])),(5,(vB5 dl sk dc)),(0,(vB0 dl sk dc)),(2,vB2),(3,(.mp (aF T113) T113.length)),(6,vB6),(1,(.box 33 [(.p bI)]))] 11 (pB b114) (vU dl sk dc bI T115),_,_,_,_,_,FC Tp 156 [(.p (dcE y100 y101 y102 y103 y104 y105)),(.ptr 6 0)] [(6,vB6),(0,(vB0 dl sk dc)),(2,vB2),(4,(.box 207 [(.mp 3)])),(5,(vB5 dl sk dc)),(1,(.box 33 [(.p bI)])),(3,(.mp (aF t) t.length))] 10 (.tup [(.p (dcE z106 z107 z108 z109 z110 z111)),(pB b112)]) (vU dl sk dc bI T113),_,_,0≤(i:Int)∧(i:Int)<(dc.length:Int)∧(i*6)<(dc.flatten.map aA).length,_]) (by kernel_rfl) (gc h9 (gc h8 (gc (cP h7) (g3c h6 (gc h4 (gc (FMM.fc (ids:=[0,1,2,3,4,5,6]) h5 (by kernel_rfl)) (g4c h4 (gc (fk 11 (xB y101) rfl) (gc (FMM.fc (ids:=[0,1,2,3,4,5,6]) h3 (by kernel_rfl)) (gc (aL (i:=i) h2 h1) (gc (aW (i:=i) h2 h1) (gc (aV (k:=6) (i:=(i:Int)) (by decide) h2 (kQ1 _) h1) (gc (aQ h0) gn)))))))))))))
 exact raw.cast (by rw [eo'n,eo'c,et'e,et'k])
theorem bBa{o:List Int}{i:Nat}{t:Lqb}{y100 y101 y102 y103 y104 y105 z106 z107 z108 z109 z110 z111:Int}{b112:Bool}{T113:Lqb}{b114:Bool}{T115:Lqb}{i':Nat}{t':Lqb}(h0:(i:Int)<(dc.length:Int))(h1:dc[i]? = some [y100,y101,y102,y103,y104,y105])(h2:uni 6 dc)(h3:aLr dl sk dc bI [y100,y101,y102,y103,y104,y105] [z106,z107,z108,z109,z110,z111] b112 t T113)(h4:(eM y101)=true)(h5:qL dl sk dc bI [y100,y101,y102,y103,y104,y105] b114 T113 T115)(h6:b114=true)(h7:b112=true)(h8:inR (((i+1):Nat):Int))(ei':i'=(i+1))(et'e:aF t'=(aF T115))(et'k:t'.length=T115.length):aC Tp 0 oB (fB dl sk dc o.length (o.map aA) i (aF t) t.length) .normal (fB dl sk dc o.length (o.map aA) i' (aF t') t'.length):=by
 subst ei';have raw:aC Tp 0 oB (fB dl sk dc o.length (o.map aA) i (aF t) t.length) .normal (fB dl sk dc o.length (o.map aA) (i+1) (aF T115) T115.length):=aC.fin (g:=⟨(rng [(0,2),(5,10),(18,29)]),[0,1,2,3,4,5,6,7,8],[],[]⟩) (o:=[bT,.x (dcE y100 y101 y102 y103 y104 y105),.c (.tup [(.p (dcE z106 z107 z108 z109 z110 z111)),(pB b112)]) (vU dl sk dc bI T113),.c (pB (eM y101)) [],bT,bT,bT,bT,.c (pB b114) (vU dl sk dc bI T115),bT,bT,bT,bT,bF]) (l:=[_,_,_,_,_,_,FC Tp 154 [(.p (dcE y100 y101 y102 y103 y104 y105)),(.ptr 4 0),(.ptr 5 0),(.ptr 0 0),(.ptr 2 0)] [(4,(.box 207 [(.mp 3)])),(5,(vB5 dl sk dc)),(0,(vB0 dl sk dc)),(2,vB2),(3,(.mp (aF T113) T113.length)),(6,vB6),(1,(.box 33 [(.p bI)]))] 11 (pB b114) (vU dl sk dc bI T115),_,_,_,_,_,FC Tp 156 [(.p (dcE y100 y101 y102 y103 y104 y105)),(.ptr 6 0)] [(6,vB6),(0,(vB0 dl sk dc)),(2,vB2),(4,(.box 207 [(.mp 3)])),(5,(vB5 dl sk dc)),(1,(.box 33 [(.p bI)])),(3,(.mp (aF t) t.length))] 10 (.tup [(.p (dcE z106 z107 z108 z109 z110 z111)),(pB b112)]) (vU dl sk dc bI T113),_,_,0≤(i:Int)∧(i:Int)<(dc.length:Int)∧(i*6)<(dc.flatten.map aA).length,_]) (by kernel_rfl) (gc h8 (gc (bA h7) (g3c h6 (gc h4 (gc (FMM.fc (ids:=[0,1,2,3,4,5,6]) h5 (by kernel_rfl)) (g4c h4 (gc (fk 11 (xB y101) rfl) (gc (FMM.fc (ids:=[0,1,2,3,4,5,6]) h3 (by kernel_rfl)) (gc (aL (i:=i) h2 h1) (gc (aW (i:=i) h2 h1) (gc (aV (k:=6) (i:=(i:Int)) (by decide) h2 (kQ1 _) h1) (gc (aQ h0) gn))))))))))))
 exact raw.cast (by rw [et'e,et'k])
theorem bBb{o:List Int}{i:Nat}{t:Lqb}{y100 y101 y102 y103 y104 y105 z106 z107 z108 z109 z110 z111:Int}{b112:Bool}{T113:Lqb}{b114:Bool}{T115:Lqb}{i':Nat}{t':Lqb}(h0:(i:Int)<(dc.length:Int))(h1:dc[i]? = some [y100,y101,y102,y103,y104,y105])(h2:uni 6 dc)(h3:aLr dl sk dc bI [y100,y101,y102,y103,y104,y105] [z106,z107,z108,z109,z110,z111] b112 t T113)(h4:(eM y101)=true)(h5:qL dl sk dc bI [y100,y101,y102,y103,y104,y105] b114 T113 T115)(h6:b114=false)(h7:inR (((i+1):Nat):Int))(ei':i'=(i+1))(et'e:aF t'=(aF T115))(et'k:t'.length=T115.length):aC Tp 0 oB (fB dl sk dc o.length (o.map aA) i (aF t) t.length) .normal (fB dl sk dc o.length (o.map aA) i' (aF t') t'.length):=by
 subst ei';have raw:aC Tp 0 oB (fB dl sk dc o.length (o.map aA) i (aF t) t.length) .normal (fB dl sk dc o.length (o.map aA) (i+1) (aF T115) T115.length):=aC.fin (g:=⟨(rng [(0,2),(5,10),(18,29)]),[0,1,2,3,4,5,6,7,8],[],[]⟩) (o:=[bT,.x (dcE y100 y101 y102 y103 y104 y105),.c (.tup [(.p (dcE z106 z107 z108 z109 z110 z111)),(pB b112)]) (vU dl sk dc bI T113),.c (pB (eM y101)) [],bT,bT,bT,bT,.c (pB b114) (vU dl sk dc bI T115),bT,bF,bF,bF]) (l:=[_,_,_,_,_,FC Tp 154 [(.p (dcE y100 y101 y102 y103 y104 y105)),(.ptr 4 0),(.ptr 5 0),(.ptr 0 0),(.ptr 2 0)] [(4,(.box 207 [(.mp 3)])),(5,(vB5 dl sk dc)),(0,(vB0 dl sk dc)),(2,vB2),(3,(.mp (aF T113) T113.length)),(6,vB6),(1,(.box 33 [(.p bI)]))] 11 (pB b114) (vU dl sk dc bI T115),_,_,_,_,_,FC Tp 156 [(.p (dcE y100 y101 y102 y103 y104 y105)),(.ptr 6 0)] [(6,vB6),(0,(vB0 dl sk dc)),(2,vB2),(4,(.box 207 [(.mp 3)])),(5,(vB5 dl sk dc)),(1,(.box 33 [(.p bI)])),(3,(.mp (aF t) t.length))] 10 (.tup [(.p (dcE z106 z107 z108 z109 z110 z111)),(pB b112)]) (vU dl sk dc bI T113),_,_,0≤(i:Int)∧(i:Int)<(dc.length:Int)∧(i*6)<(dc.flatten.map aA).length,_]) (by kernel_rfl) (gc h7 (g3c h6 (gc h4 (gc (FMM.fc (ids:=[0,1,2,3,4,5,6]) h5 (by kernel_rfl)) (g4c h4 (gc (fk 11 (xB y101) rfl) (gc (FMM.fc (ids:=[0,1,2,3,4,5,6]) h3 (by kernel_rfl)) (gc (aL (i:=i) h2 h1) (gc (aW (i:=i) h2 h1) (gc (aV (k:=6) (i:=(i:Int)) (by decide) h2 (kQ1 _) h1) (gc (aQ h0) gn)))))))))))
 exact raw.cast (by rw [et'e,et'k])
theorem bBc{o:List Int}{i:Nat}{t:Lqb}{y100 y101 y102 y103 y104 y105 z106 z107 z108 z109 z110 z111:Int}{b112:Bool}{T113:Lqb}{i':Nat}{t':Lqb}(h0:(i:Int)<(dc.length:Int))(h1:dc[i]? = some [y100,y101,y102,y103,y104,y105])(h2:uni 6 dc)(h3:aLr dl sk dc bI [y100,y101,y102,y103,y104,y105] [z106,z107,z108,z109,z110,z111] b112 t T113)(h4:(eM y101)=false)(h5:inR (((i+1):Nat):Int))(ei':i'=(i+1))(et'e:aF t'=(aF T113))(et'k:t'.length=T113.length):aC Tp 0 oB (fB dl sk dc o.length (o.map aA) i (aF t) t.length) .normal (fB dl sk dc o.length (o.map aA) i' (aF t') t'.length):=by
 subst ei';have raw:aC Tp 0 oB (fB dl sk dc o.length (o.map aA) i (aF t) t.length) .normal (fB dl sk dc o.length (o.map aA) (i+1) (aF T113) T113.length):=aC.fin (g:=⟨(rng [(0,2),(5,10),(18,29)]),[0,1,2,3,4,5,6,7,8],[],[]⟩) (o:=[bT,.x (dcE y100 y101 y102 y103 y104 y105),.c (.tup [(.p (dcE z106 z107 z108 z109 z110 z111)),(pB b112)]) (vU dl sk dc bI T113),.c (pB (eM y101)) [],bF,bF,bF,bF,bF]) (l:=[_,_,_,_,_,_,_,FC Tp 156 [(.p (dcE y100 y101 y102 y103 y104 y105)),(.ptr 6 0)] [(6,vB6),(0,(vB0 dl sk dc)),(2,vB2),(4,(.box 207 [(.mp 3)])),(5,(vB5 dl sk dc)),(1,(.box 33 [(.p bI)])),(3,(.mp (aF t) t.length))] 10 (.tup [(.p (dcE z106 z107 z108 z109 z110 z111)),(pB b112)]) (vU dl sk dc bI T113),_,_,0≤(i:Int)∧(i:Int)<(dc.length:Int)∧(i*6)<(dc.flatten.map aA).length,_]) (by kernel_rfl) (gc h5 (g5c h4 (gc (fk 11 (xB y101) rfl) (gc (FMM.fc (ids:=[0,1,2,3,4,5,6]) h3 (by kernel_rfl)) (gc (aL (i:=i) h2 h1) (gc (aW (i:=i) h2 h1) (gc (aV (k:=6) (i:=(i:Int)) (by decide) h2 (kQ1 _) h1) (gc (aQ h0) gn))))))))
 exact raw.cast (by rw [et'e,et'k])
theorem bBd{o:List Int}{i:Nat}{t:Lqb}(h0:(dc.length:Int)≤(i:Int)):aC Tp 0 oB (fB dl sk dc o.length (o.map aA) i (aF t) t.length) (.exit 0) (fB dl sk dc o.length (o.map aA) i (aF t) t.length):=by
 exact aC.fin (g:=⟨(rng [(0,2),(5,10),(18,29)]),[0,1,2,3,4,5,6,7,8],[],[]⟩) (o:=[bF]) (l:=[_]) (by kernel_rfl) (gc (aR h0) gn)
end
section
def bHj(dl:Int)(oc:List Int)(dc:Lqq)(bib:Int)(x:List Int):Bool:=decide (dK x≤4) && (dB x == bib && (cD dl oc dc x && (!(dK x == 4) || aHs dl oc dc x)))
def byI(k t m:Int):Int:=if k=1 then t-m else if k=2 then t+1200*m else if k=3 then t else t+m
def bHk(dl:Int)(oc:List Int)(dc:Lqq)(bib:Int)(acc:Bool × Int)(x:List Int):Bool × Int:=if bHj dl oc dc bib x then (acc.1 || dK x == 3,byI (dK x) acc.2 (iR dl oc dc x)) else acc
def bVh(dl:Int)(oc:List Int)(dc:Lqq)(bib time:Int):Bool × Int:=dc.foldl (bHk dl oc dc bib) (time == -1,time)
def lL(dl:Int)(oc:List Int)(dc:Lqq)(bib time:Int):Int × Bool:=if (bVh dl oc dc bib time).1 then (0,true) else (max 0 (bVh dl oc dc bib time).2,false)
def jW(dl:Int)(dc:Lqq)(x:List Int):Bool:=eM (dK x) && (cD dl [] dc x && (sS dl [] dc x).isNone)
def aP(dl:Int)(dc:Lqq):List Int:=(dc.filter (jW dl dc)).map dN
section
variable {dl:Int} {sk dc:Lqq} {oc:List Int} {ov:PV}
theorem bMl(hd:cE dc)(hov:∀ n,rN ov n (oc.contains n)){x:List Int}(hx:x∈dc){T:Lqb}(hT:cF dl oc dc T):∃ T' z0 z1 z2 z3 z4 z5,cF dl oc dc T'∧(sS dl oc dc x).getD zero6=[z0,z1,z2,z3,z4,z5]∧aLr dl sk dc ov x [z0,z1,z2,z3,z4,z5] (sS dl oc dc x).isSome T T':=by
 obtain ⟨T',h1,h2⟩:=cAh (sk:=sk) hd hov hx T hT;cases hr:sS dl oc dc x with
 | none =>
  rw [hr] at h2
  exact ⟨T',0,0,0,0,0,0,h1,rfl,h2⟩
 | some z =>
  have hz:z.length=6:=by
   rw [aCh hd hx] at hr
   exact iN hd _ z (vJ hr)
  obtain ⟨a,b,c,d,e,f,rfl⟩:=len6 hz;rw [hr] at h2
  exact ⟨T',a,b,c,d,e,f,h1,rfl,h2⟩
theorem aLp(hd:cE dc):∀ (n:Nat) (x:List Int),x∈dc→10000-dN x≤(n:Int)→0≤iR dl oc dc x∧iR dl oc dc x≤36000
 | 0,x,hx,h=>by have:=eN hd hx;omega
 | n+1,x,hx,h=>by
  rw [aTp hd hx];cases hr:aHt dl oc dc x with
  | none =>
   have h4:=(gU.1 (hd.rng x hx)).2.2.2;have:lV (x.getD 1 0)≤36000:=by unfold lV;split <;> omega
   show 0≤x.getD 4 0∧x.getD 4 0≤36000;omega
  | some z =>
   have hz:z∈cH dc (dN x):=by
    rw [aCi hd hx] at hr
    exact vJ hr
   obtain ⟨a1,a2⟩:=rM hd hx hz;exact aLp hd n z a1 (by omega)
theorem bMm(hd:cE dc){x:List Int}(hx:x∈dc):0≤iR dl oc dc x∧iR dl oc dc x≤36000:=aLp hd 10000 x hx (by have:=eN hd hx;omega)
theorem cAg(hd:cE dc)(hov:∀ n,rN ov n (oc.contains n))(bib:Int){x:List Int}(hx:x∈dc){T:Lqb}(hT:cF dl oc dc T):∃ T',cF dl oc dc T'∧zA dl sk dc ov x bib (bHj dl oc dc bib x) T T':=by
 obtain ⟨T1,h1,c1⟩:=bBg (sk:=sk) hd hov hx T hT;obtain ⟨T2,h2,c2⟩:=cAj (sk:=sk) hd hov hx T1 h1;obtain ⟨a,k,c,d,e,f,rfl⟩:=len6 (hd.ud x hx);unfold bHj
 by_cases hk:k≤4
 ·have hk':decide (k≤4)=true:=decide_eq_true hk
  rw [show decide (dK [a,k,c,d,e,f]≤4)=true from hk',iC]
  by_cases hb:d=bib
  ·rw [show (dB [a,k,c,d,e,f] == bib)=true by simpa using hb,iC]
   cases hc:cD dl oc dc [a,k,c,d,e,f] with
   | false =>
    rw [hc] at c1
    exact ⟨T1,h1,bVk hk' hb c1 rfl⟩
   | true =>
    rw [hc] at c1
    rw [iC]
    by_cases h4:k=4
    ·rw [show (dK [a,k,c,d,e,f] == 4)=true by simpa using h4,Bool.not_true,Bool.false_or]
     exact ⟨T2,h2,bVj hk' hb c1 rfl h4 c2⟩
    ·rw [show (dK [a,k,c,d,e,f] == 4)=false by simpa using h4,Bool.not_false,Bool.true_or]
     exact ⟨T1,h1,bVi hk' hb c1 rfl h4⟩
  ·rw [show (dB [a,k,c,d,e,f] == bib)=false by simpa using hb,Bool.false_and]
   exact ⟨T,hT,bVl hk' hb⟩
 ·have hk':decide (k≤4)=false:=decide_eq_false hk
  rw [show decide (dK [a,k,c,d,e,f]≤4)=false from hk',Bool.false_and]
  exact ⟨T,hT,bVm hk'⟩
theorem bHl(hd:cE dc)(hov:∀ n,rN ov n (oc.contains n))(s0 s1:Int)(hs : -1≤s1∧s1≤360000){T:Lqb}(hT:cF dl oc dc T):∃ T',cF dl oc dc T'∧aDq dl sk dc ov [s0,s1] (lL dl oc dc s0 s1).1 (lL dl oc dc s0 s1).2 T T':=by
 have hlen:=hd.len;obtain ⟨acc,⟨h1,h2,_⟩,h3⟩:=aE.ex (P:=Tp) (k:=7) (b:=sub (cd Tryz.f134) [1,1,0,1,0,0]) (e := .exit 0) (fun i (a:(Bool × Int) × Lqb)=>bR dl sk dc ov s0 s1 a.1.1 a.1.2 i (aF a.2) a.2.length)
  (fun a=>bR dl sk dc ov s0 s1 a.1.1 a.1.2 dc.length (aF a.2) a.2.length)
  (fun i a=>cF dl oc dc a.2∧a.1=(dc.take i).foldl (bHk dl oc dc s0) (s1 == -1,s1) ∧ -1-36000*(i:Int)≤a.1.2∧a.1.2≤360000+43200000*(i:Int)) (by simp) dc.length
  (fun i acc hi hI=>by
   obtain ⟨⟨out,tot⟩,T1⟩:=acc;obtain ⟨h1,h2,h3,h4⟩:=hI;dsimp only at h1 h2 h3 h4
   have hm:=fV hi;obtain ⟨a,k,c,d,e,f,hy⟩:=len6 (hd.ud _ hm);have hx:dc[i]? = some [a,k,c,d,e,f]:=by rw [kQ0 hi,hy]
   rw [hy] at hm
   have et:(dc.take (i+1)).foldl (bHk dl oc dc s0) (s1 == -1,s1)=bHk dl oc dc s0 (out,tot) [a,k,c,d,e,f]:=by
    rw [List.take_add_one,hx,aHg,← h2];rfl
   obtain ⟨T2,q1,q2⟩:=cAg (sk:=sk) hd hov s0 hm h1;rw [et];unfold bHk;cases hh:bHj dl oc dc s0 [a,k,c,d,e,f] with
   | false =>
    rw [hh] at q2
    exact ⟨((out,tot),T2),⟨q1,by simp,by dsimp only;omega,by dsimp only;omega⟩,aQh (by omega) hx hd.ud q2 rfl (aO (by omega)) rfl rfl rfl⟩
   | true =>
    rw [hh] at q2
    rw [if_pos rfl];obtain ⟨T3,q3,q4⟩:=bZr (sk:=sk) hd hov hm T2 q1;have hb:=bMm (dl:=dl) (oc:=oc) hd hm;revert q4 hb;generalize iR dl oc dc [a,k,c,d,e,f]=m;intro q4 hb;have hk:0≤k∧k≤4:=by
     have h5:=(gU.1 (hd.rng _ hm)).2.1;unfold bHj at hh
     rw [kQ6] at hh
     exact ⟨h5.1,of_decide_eq_true hh.1⟩
    have hk5:k=0∨k=1∨k=2∨k=3∨k=4:=by omega
    clear hh
    rcases hk5 with rfl | rfl | rfl | rfl | rfl
    ·have hI:∀ q:Bool,-1-36000*((i+1:Nat):Int)≤tot+m∧tot+m≤360000+43200000*((i+1:Nat):Int):=fun _=>by omega
     cases out with
     | true=>exact ⟨((true,tot+m),T3),⟨q3,rfl,(hI true).1,(hI true).2⟩,bAp (by omega) hx hd.ud q2 rfl rfl q4 (by show inR (tot+m);unfold inR;omega) (aO (by omega)) rfl rfl rfl rfl⟩
     | false=>exact ⟨((false,tot+m),T3),⟨q3,rfl,(hI true).1,(hI true).2⟩,bAq (by omega) hx hd.ud q2 rfl rfl q4 (by show inR (tot+m);unfold inR;omega) (aO (by omega)) rfl rfl rfl rfl rfl⟩
    ·have hI:∀ q:Bool,-1-36000*((i+1:Nat):Int)≤tot-m∧tot-m≤360000+43200000*((i+1:Nat):Int):=fun _=>by omega
     cases out with
     | true=>exact ⟨((true,tot-m),T3),⟨q3,rfl,(hI true).1,(hI true).2⟩,bAr (by omega) hx hd.ud q2 rfl rfl q4 (by show inR (tot-m);unfold inR;omega) (aO (by omega)) rfl rfl rfl rfl⟩
     | false=>exact ⟨((false,tot-m),T3),⟨q3,rfl,(hI true).1,(hI true).2⟩,bAs (by omega) hx hd.ud q2 rfl rfl q4 (by show inR (tot-m);unfold inR;omega) (aO (by omega)) rfl rfl rfl rfl rfl⟩
    ·have hI:∀ q:Bool,-1-36000*((i+1:Nat):Int)≤tot+1200*m∧tot+1200*m≤360000+43200000*((i+1:Nat):Int):=fun _=>by omega
     cases out with
     | true=>exact ⟨((true,tot+1200*m),T3),⟨q3,rfl,(hI true).1,(hI true).2⟩,bAt (by omega) hx hd.ud q2 rfl rfl q4 ⟨by show inR (1200*m);unfold inR;omega,by show inR (tot+1200*m);unfold inR;omega⟩ (aO (by omega)) rfl rfl rfl rfl⟩
     | false=>exact ⟨((false,tot+1200*m),T3),⟨q3,rfl,(hI true).1,(hI true).2⟩,bAu (by omega) hx hd.ud q2 rfl rfl q4 ⟨by show inR (1200*m);unfold inR;omega,by show inR (tot+1200*m);unfold inR;omega⟩ (aO (by omega)) rfl rfl rfl rfl rfl⟩
    ·have hI:∀ q:Bool,-1-36000*((i+1:Nat):Int)≤tot∧tot≤360000+43200000*((i+1:Nat):Int):=fun _=>by omega
     cases out with
     | true=>exact ⟨((true,tot),T3),⟨q3,rfl,(hI true).1,(hI true).2⟩,bAv (by omega) hx hd.ud q2 rfl rfl q4 (aO (by omega)) rfl rfl rfl⟩
     | false=>exact ⟨((true,tot),T3),⟨q3,rfl,(hI true).1,(hI true).2⟩,bAw (by omega) hx hd.ud q2 rfl rfl q4 (aO (by omega)) rfl rfl rfl rfl⟩
    ·have hI:∀ q:Bool,-1-36000*((i+1:Nat):Int)≤tot+m∧tot+m≤360000+43200000*((i+1:Nat):Int):=fun _=>by omega
     cases out with
     | true=>exact ⟨((true,tot+m),T3),⟨q3,rfl,(hI true).1,(hI true).2⟩,bAx (by omega) hx hd.ud q2 rfl rfl q4 (by show inR (tot+m);unfold inR;omega) (aO (by omega)) rfl rfl rfl rfl⟩
     | false=>exact ⟨((false,tot+m),T3),⟨q3,rfl,(hI true).1,(hI true).2⟩,bAy (by omega) hx hd.ud q2 rfl rfl q4 (by show inR (tot+m);unfold inR;omega) (aO (by omega)) rfl rfl rfl rfl rfl⟩)
  (fun acc hI=>aQi (by omega)) (acc:=((s1 == -1,s1),T)) ⟨hT,by simp,by dsimp only;omega,by dsimp only;omega⟩
 obtain ⟨⟨out,tot⟩,T1⟩:=acc;dsimp only at h1 h2 h3
 rw [List.take_length] at h2
 have e:bVh dl oc dc s0 s1=(out,tot):=h2.symm;unfold lL;rw [e];cases out with
 | true=>exact ⟨T1,h1,bVs h3 rfl⟩
 | false=>exact ⟨T1,h1,bVt h3 rfl (by simp) (by simp [zB];omega)⟩
theorem rL(hd:cE dc){base:Nat}:FV Tp 83 [oU dl sk dc] base (.own base) [(base,.row 3 (aP dl dc).length ((aP dl dc).map aA))]:=by
 have hlen:=hd.len;have hov:=vP;obtain ⟨acc,⟨h1,h2⟩,h3⟩:=aE.ex (P:=Tp) (k:=0) (b:=sub (cd Tryz.f83) [1,1,1,0,1,0,0]) (e := .exit 0) (fun i (a:List Int × Lqb)=>fB dl sk dc a.1.length (a.1.map aA) i (aF a.2) a.2.length)
  (fun a=>fB dl sk dc a.1.length (a.1.map aA) dc.length (aF a.2) a.2.length)
  (fun i a=>cF dl [] dc a.2∧a.1=((dc.take i).filter (jW dl dc)).map dN) (by simp) dc.length
  (fun i acc hi hI=>by
   obtain ⟨o,T1⟩:=acc;obtain ⟨h1,h2⟩:=hI;dsimp only at h1 h2
   have hm:=fV hi;obtain ⟨a,k,c,d,e,f,hy⟩:=len6 (hd.ud _ hm);have hx:dc[i]? = some [a,k,c,d,e,f]:=by rw [kQ0 hi,hy]
   rw [hy] at hm
   have ho:o.length≤1000:=by
    rw [h2,fL];have:=rF (jW dl dc) (dc.take i);rw [nC] at this;omega
   have et:((dc.take (i+1)).filter (jW dl dc)).map dN=o++if jW dl dc [a,k,c,d,e,f] then [a] else []:=by
    rw [List.take_add_one,hx,sQ,iY,← h2]
    congr 1
    show (List.filter (jW dl dc) [[a,k,c,d,e,f]]).map dN=_;cases hq:jW dl dc [a,k,c,d,e,f] <;> simp [hq]
   rw [et];obtain ⟨T2,z0,z1,z2,z3,z4,z5,q1,_,q2⟩:=bMl (sk:=sk) hd hov hm h1;obtain ⟨T3,q3,q4⟩:=bBg (sk:=sk) hd hov hm T2 q1;cases ha:eM k with
   | false =>
    have hb:jW dl dc [a,k,c,d,e,f]=false:=by unfold jW;rw [show eM (dK [a,k,c,d,e,f])=false from ha,Bool.false_and]
    rw [hb];exact ⟨(o,T2),⟨q1,by simp⟩,bBc (by omega) hx hd.ud q2 ha (aO (by omega)) rfl rfl rfl⟩
   | true =>
    have hb:jW dl dc [a,k,c,d,e,f]=(cD dl [] dc [a,k,c,d,e,f] && (sS dl [] dc [a,k,c,d,e,f]).isNone):=by unfold jW;rw [show eM (dK [a,k,c,d,e,f])=true from ha,iC]
    rw [hb];cases hc:cD dl [] dc [a,k,c,d,e,f] with
    | false =>
     rw [hc] at q4
     exact ⟨(o,T3),⟨q3,by simp⟩,bBb (by omega) hx hd.ud q2 ha q4 rfl (aO (by omega)) rfl rfl rfl⟩
    | true =>
     rw [hc] at q4
     cases hr:sS dl [] dc [a,k,c,d,e,f] with
     | some z =>
      rw [hr] at q2
      exact ⟨(o,T3),⟨q3,by simp⟩,bBa (by omega) hx hd.ud q2 ha q4 rfl rfl (aO (by omega)) rfl rfl rfl⟩
     | none =>
      rw [hr] at q2
      exact ⟨(o++[a],T3),⟨q3,by simp⟩,bAz (o:=o) (o':=o++[a]) (by omega) hx hd.ud q2 ha q4 rfl rfl ⟨rfl,by omega⟩ (aO (by omega)) (by simp) (by simp) rfl rfl rfl⟩)
  (fun acc hI=>bBd (by omega)) (acc:=([],[])) ⟨cF.nil,by simp⟩
 obtain ⟨o,T1⟩:=acc;dsimp only at h1 h2 h3
 rw [List.take_length] at h2
 rw [show aP dl dc=o from h2.symm]
 exact bVu h3
end
end
section
variable {dl:Int}{sk dc:Lqq}

noncomputable abbrev lR:Code:=sub (cd Tryz.f122) [1,1,1,1,1,0,1,0,0]
noncomputable abbrev aCk:Code:=sub (cd Tryz.f128) [1,0,0,0]
theorem wY:((0:Int) != (0:Int))=false:=by first | decide | simp
theorem bUw{bib y0 y1:Int}(h0:cM dl sk dc)(h1:uni 2 (aB sk)∧(aB sk).length≤1000)(h2:(aK (aB sk) 0).length≤1000)(h3:(0:Int)≤(bD (fun x=>decide (bib=x)) (aK (aB sk) 0)))(h4:(aB sk)[(bD (fun x=>decide (bib=x)) (aK (aB sk) 0)).toNat]? = some [y0,y1])(h5:0≤(bD (fun x=>decide (bib=x)) (aK (aB sk) 0)))(h6:uni 2 (aB sk)){base:Nat}:FV Tp 135 [(.p (.agg (bB dl sk dc))),(pI bib)] base (.tup [(.rp (aI dl (aB sk) (aB dc)) 0),(.p (.agg [(aA y0),(aA y1)])),(pI 0)]) []:=by
 exact FV.fin Tryz.func135 rfl (o:=[.c (.tup [(.rp (aI dl (aB sk) (aB dc)) 0),(pI 0)]) [],bF,.x (.agg (bB dl (aB sk) (aB dc))),.c (.own 2) [(2,(.row 3 ((aK (aB sk) 0).length) ((aK (aB sk) 0).map aA)))],.c (pI (bD (fun x=>decide (bib=x)) (aK (aB sk) 0))) [],bF,.x (.sl ((aB sk).length) ((aB sk).flatten.map aA)),.x (.agg [(aA y0),(aA y1)])]) (l:=[_,_,0≤(bD (fun x=>decide (bib=x)) (aK (aB sk) 0))∧(bD (fun x=>decide (bib=x)) (aK (aB sk) 0))<(((aB sk).length:Nat):Int)∧((bD (fun x=>decide (bib=x)) (aK (aB sk) 0)).toNat*2)<((aB sk).flatten.map aA).length,(aI dl (aB sk) (aB dc))[1]? = some (.sl ((aB sk).length) ((aB sk).flatten.map aA)),_,FC Tp 126 [(.own 2),(pI bib)] [(2,(.row 3 ((aK (aB sk) 0).length) ((aK (aB sk) 0).map aA)))] 3 (pI (bD (fun x=>decide (bib=x)) (aK (aB sk) 0))) [],_,some (.agg (((aI dl (aB sk) (aB dc)).drop 0).take 3):PV)=some (.agg (bB dl (aB sk) (aB dc))),0+3≤(aI dl (aB sk) (aB dc)).length,_,_]) (by kernel_rfl) (gc (aL (i:=(bD (fun x=>decide (bib=x)) (aK (aB sk) 0)).toNat) h6 h4) (gc (aW (i:=(bD (fun x=>decide (bib=x)) (aK (aB sk) 0)).toNat) h6 h4) (gc (aV (k:=2) (i:=(bD (fun x=>decide (bib=x)) (aK (aB sk) 0))) (by decide) h6 h5 h4) (gc rfl (gc (aR h3) (gc (fv (aCb (aK (aB sk) 0) bib h2)) (gc (fk 2 (nZ dl (aB sk) (aB dc) h1) rfl) (gc rfl (gc (by first | decide | simp) (gc wY (gc (fk 2 (gW dl sk dc h0) rfl) gn)))))))))))
theorem aHw(h0:cM dl sk dc)(h1:cE (aB dc)){base:Nat}:FV Tp 19 [(.p (.agg (bB dl sk dc)))] base (.tup [(.p (aG (aP dl (aB dc)))),(pI 0)]) []:=by
 exact FV.frz (FMM.fin (k:=0) (g:=⟨[],[],[1],[]⟩) rfl Tryz.func19 rfl (o:=[.c (.tup [(.rp (aI dl (aB sk) (aB dc)) 0),(pI 0)]) [],bF,.c (.own 1) [(1,(.row 3 ((aP dl (aB dc)).length) ((aP dl (aB dc)).map aA)))]]) (l:=[_,_,_]) (by kernel_rfl) (gc (fk 1 (rL (dl:=dl) (sk:=(aB sk)) (dc:=(aB dc)) h1) rfl) (gc wY (gc (fk 1 (gW dl sk dc h0) rfl) gn)))) (by kernel_rfl)
theorem bUx{r0:Int}(h0:uni 2 sk)(h1:uni 6 dc)(h2:(dC dl sk dc)≠0)(er0:r0=(dC dl sk dc)){base:Nat}:FV Tp 19 [(.p (.agg (bB dl sk dc)))] base (.tup [(.p bI),(pI r0)]) []:=by
 subst er0;exact FV.frz (FMM.fin (k:=0) (g:=⟨[],[],[],[]⟩) rfl Tryz.func19 rfl (o:=[.c (.tup [(.p (.v (.pointer none))),(pI (dC dl sk dc))]) [],bT]) (l:=[_,_]) (by kernel_rfl) (gc (iD h2) (gc (fk 1 (vQ dl sk dc h0 h1 h2) rfl) gn))) (by kernel_rfl)
def jL(dl:Int)(sk:Lqq)(dc:Lqq)(on:Nat)(oc:List PV)(i:Nat)(te:List (Value × PV))(tk:Nat):St:=⟨fr 44 [(1,(.fn 145 [] [])),(4,(.p bI)),(5,(pI 0)),(6,(.rp (aI dl (aB sk) (aB dc)) 0)),(8,(.ptr 7 0)),(9,(.own 8)),(26,(.p (.sl ((aB dc).length) ((aB dc).flatten.map aA)))),(27,(pI (((aB dc).length:Nat):Int))),(28,(pI (i:Int)))],[some (vB0 dl (aB sk) (aB dc)),some (.box 33 [(.p bI)]),some vB2,some (.mp te tk),some (.box 207 [(.mp 3)]),some (vB5 dl (aB sk) (aB dc)),some vB6,some vB2,some (.row 3 on oc)]⟩
theorem bUy{o'0:List Int}{i'1:Nat}{t'2:Lqb}(h0:cM dl sk dc)(hl1:aE Tp 0 lR (jL dl sk dc 0 [] 0 (aF ([]:Lqb)) 0) (.exit 0) (jL dl sk dc o'0.length (o'0.map aA) i'1 (aF t'2) t'2.length)){base:Nat}:FV Tp 122 [(.p (.agg (bB dl sk dc))),(.fn 145 [] [])] base (.tup [(.p (aG o'0)),(pI 0)]) []:=by
 exact FV.frz (FMM.fin (k:=0) (g:=⟨[],[],[8],[]⟩) rfl Tryz.func122 rfl (o:=[.c (.tup [(.rp (aI dl (aB sk) (aB dc)) 0),(pI 0)]) [],bF,.c (.agg (kVL 5 6 1 3 7 2)) [(1,(vB0 dl (aB sk) (aB dc))),(2,(.box 33 [(.p bI)])),(3,(.box 139 (kVL 5 6 1 3 7 2))),(4,(.mp (aF ([]:Lqb)) 0)),(5,(.box 207 [(.mp 4)])),(6,(vB5 dl (aB sk) (aB dc))),(7,(.box 209 [(.fn 153 [] [(.ptr 1 0),(.ptr 3 0)])]))],.x (.sl ((aB dc).length) ((aB dc).flatten.map aA)),.k 1 ⟨(rng [(0,1),(2,2),(7,1),(10,16),(29,14)]),[1,2,3,4,5,6,7,8,9],[],[(9,3)]⟩ (.exit 0) (jL dl sk dc o'0.length (o'0.map aA) i'1 (aF t'2) t'2.length)]) (l:=[_,(aI dl (aB sk) (aB dc))[2]? = some (.sl ((aB dc).length) ((aB dc).flatten.map aA)),FC Tp 87 [(.rp (aI dl (aB sk) (aB dc)) 0),(.p bI)] [] 1 (.agg (kVL 5 6 1 3 7 2)) [(1,(vB0 dl (aB sk) (aB dc))),(2,(.box 33 [(.p bI)])),(3,(.box 139 (kVL 5 6 1 3 7 2))),(4,(.mp (aF ([]:Lqb)) 0)),(5,(.box 207 [(.mp 4)])),(6,(vB5 dl (aB sk) (aB dc))),(7,(.box 209 [(.fn 153 [] [(.ptr 1 0),(.ptr 3 0)])]))],_,_]) (by kernel_rfl) (gc hl1.code (gc rfl (gc (FMM.fcN (k:=7) rfl (ids:=[]) (sM (dl:=dl) (sk:=(aB sk)) (dc:=(aB dc))) (by kernel_rfl)) (gc wY (gc (fk 1 (gW dl sk dc h0) rfl) gn)))))) (by kernel_rfl)
theorem bUz{r0:Int}(h0:uni 2 sk)(h1:uni 6 dc)(h2:(dC dl sk dc)≠0)(er0:r0=(dC dl sk dc)){base:Nat}:FV Tp 122 [(.p (.agg (bB dl sk dc))),(.fn 145 [] [])] base (.tup [(.p bI),(pI r0)]) []:=by
 subst er0;exact FV.frz (FMM.fin (k:=0) (g:=⟨[],[],[],[]⟩) rfl Tryz.func122 rfl (o:=[.c (.tup [(.p (.v (.pointer none))),(pI (dC dl sk dc))]) [],bT]) (l:=[_,_]) (by kernel_rfl) (gc (iD h2) (gc (fk 1 (vQ dl sk dc h0 h1 h2) rfl) gn))) (by kernel_rfl)
theorem bAg{o:List Int}{i:Nat}{t:Lqb}{y100 y101 y102 y103 y104 y105:Int}{b106:Bool}{T107:Lqb}{o':List Int}{i':Nat}{t':Lqb}(h0:(i:Int)<(((aB dc).length:Nat):Int))(h1:(aB dc)[i]? = some [y100,y101,y102,y103,y104,y105])(h2:uni 6 (aB dc))(h3:aLq 145 dl (aB sk) (aB dc) bI [y100,y101,y102,y103,y104,y105] b106 t T107)(h4:b106=true)(h5:[(aA y100)].length=1*1∧o.length+1≤1000000)(h6:inR (((i+1):Nat):Int))(eo'n:o'.length=(o.length+1))(eo'c:o'.map aA=((o.map aA)++[(aA y100)]))(ei':i'=(i+1))(et'e:aF t'=(aF T107))(et'k:t'.length=T107.length):aC Tp 0 lR (jL dl sk dc o.length (o.map aA) i (aF t) t.length) .normal (jL dl sk dc o'.length (o'.map aA) i' (aF t') t'.length):=by
 subst ei';have raw:aC Tp 0 lR (jL dl sk dc o.length (o.map aA) i (aF t) t.length) .normal (jL dl sk dc (o.length+1) ((o.map aA)++[(aA y100)]) (i+1) (aF T107) T107.length):=aC.fin (g:=⟨(rng [(0,1),(2,2),(7,1),(10,16),(29,14)]),[0,1,2,3,4,5,6,7,11],[],[]⟩) (o:=[bT,.x (dcE y100 y101 y102 y103 y104 y105),.c (pB b106) (vU dl (aB sk) (aB dc) bI T107),bT]) (l:=[_,_,_,FC Tp 145 [(.rp (aI dl (aB sk) (aB dc)) 0),fP,(.p (dcE y100 y101 y102 y103 y104 y105))] [(4,(.box 207 [(.mp 3)])),(5,(vB5 dl (aB sk) (aB dc))),(0,(vB0 dl (aB sk) (aB dc))),(2,vB2),(6,vB6),(1,(.box 33 [(.p bI)])),(3,(.mp (aF t) t.length))] 10 (pB b106) (vU dl (aB sk) (aB dc) bI T107),_,_,0≤(i:Int)∧(i:Int)<(((aB dc).length:Nat):Int)∧(i*6)<((aB dc).flatten.map aA).length,_]) (by kernel_rfl) (gc h6 (gc h5 (gc h4 (gc (FMM.fc (ids:=[0,1,2,3,4,5,6]) h3 (by kernel_rfl)) (gc (aL (i:=i) h2 h1) (gc (aW (i:=i) h2 h1) (gc (aV (k:=6) (i:=(i:Int)) (by decide) h2 (kQ1 _) h1) (gc (aQ h0) gn))))))))
 exact raw.cast (by rw [eo'n,eo'c,et'e,et'k])
theorem bAh{o:List Int}{i:Nat}{t:Lqb}{y100 y101 y102 y103 y104 y105:Int}{b106:Bool}{T107:Lqb}{i':Nat}{t':Lqb}(h0:(i:Int)<(((aB dc).length:Nat):Int))(h1:(aB dc)[i]? = some [y100,y101,y102,y103,y104,y105])(h2:uni 6 (aB dc))(h3:aLq 145 dl (aB sk) (aB dc) bI [y100,y101,y102,y103,y104,y105] b106 t T107)(h4:b106=false)(h5:inR (((i+1):Nat):Int))(ei':i'=(i+1))(et'e:aF t'=(aF T107))(et'k:t'.length=T107.length):aC Tp 0 lR (jL dl sk dc o.length (o.map aA) i (aF t) t.length) .normal (jL dl sk dc o.length (o.map aA) i' (aF t') t'.length):=by
 subst ei';have raw:aC Tp 0 lR (jL dl sk dc o.length (o.map aA) i (aF t) t.length) .normal (jL dl sk dc o.length (o.map aA) (i+1) (aF T107) T107.length):=aC.fin (g:=⟨(rng [(0,1),(2,2),(7,1),(10,16),(29,14)]),[0,1,2,3,4,5,6,7,8],[],[]⟩) (o:=[bT,.x (dcE y100 y101 y102 y103 y104 y105),.c (pB b106) (vU dl (aB sk) (aB dc) bI T107),bF]) (l:=[_,_,FC Tp 145 [(.rp (aI dl (aB sk) (aB dc)) 0),fP,(.p (dcE y100 y101 y102 y103 y104 y105))] [(4,(.box 207 [(.mp 3)])),(5,(vB5 dl (aB sk) (aB dc))),(0,(vB0 dl (aB sk) (aB dc))),(2,vB2),(6,vB6),(1,(.box 33 [(.p bI)])),(3,(.mp (aF t) t.length))] 10 (pB b106) (vU dl (aB sk) (aB dc) bI T107),_,_,0≤(i:Int)∧(i:Int)<(((aB dc).length:Nat):Int)∧(i*6)<((aB dc).flatten.map aA).length,_]) (by kernel_rfl) (gc h5 (gc h4 (gc (FMM.fc (ids:=[0,1,2,3,4,5,6]) h3 (by kernel_rfl)) (gc (aL (i:=i) h2 h1) (gc (aW (i:=i) h2 h1) (gc (aV (k:=6) (i:=(i:Int)) (by decide) h2 (kQ1 _) h1) (gc (aQ h0) gn)))))))
 exact raw.cast (by rw [et'e,et'k])
theorem bAi{o:List Int}{i:Nat}{t:Lqb}(h0:(((aB dc).length:Nat):Int)≤(i:Int)):aC Tp 0 lR (jL dl sk dc o.length (o.map aA) i (aF t) t.length) (.exit 0) (jL dl sk dc o.length (o.map aA) i (aF t) t.length):=by
 exact aC.fin (g:=⟨(rng [(0,1),(2,2),(7,1),(10,16),(29,14)]),[0,1,2,3,4,5,6,7,8],[],[]⟩) (o:=[bF]) (l:=[_]) (by kernel_rfl) (gc (aR h0) gn)
def jM(dl:Int)(sk:Lqq)(dc:Lqq)(on:Nat)(oc:List PV)(i:Nat)(te:List (Value × PV))(tk:Nat):St:=⟨fr 44 [(1,(.fn 123 [] [])),(4,(.p bI)),(5,(pI 0)),(6,(.rp (aI dl (aB sk) (aB dc)) 0)),(8,(.ptr 7 0)),(9,(.own 8)),(26,(.p (.sl ((aB dc).length) ((aB dc).flatten.map aA)))),(27,(pI (((aB dc).length:Nat):Int))),(28,(pI (i:Int)))],[some (vB0 dl (aB sk) (aB dc)),some (.box 33 [(.p bI)]),some vB2,some (.mp te tk),some (.box 207 [(.mp 3)]),some (vB5 dl (aB sk) (aB dc)),some vB6,some vB2,some (.row 3 on oc)]⟩
theorem bVa{o'0:List Int}{i'1:Nat}{t'2:Lqb}(h0:cM dl sk dc)(hl1:aE Tp 0 lR (jM dl sk dc 0 [] 0 (aF ([]:Lqb)) 0) (.exit 0) (jM dl sk dc o'0.length (o'0.map aA) i'1 (aF t'2) t'2.length)){base:Nat}:FV Tp 122 [(.p (.agg (bB dl sk dc))),(.fn 123 [] [])] base (.tup [(.p (aG o'0)),(pI 0)]) []:=by
 exact FV.frz (FMM.fin (k:=0) (g:=⟨[],[],[8],[]⟩) rfl Tryz.func122 rfl (o:=[.c (.tup [(.rp (aI dl (aB sk) (aB dc)) 0),(pI 0)]) [],bF,.c (.agg (kVL 5 6 1 3 7 2)) [(1,(vB0 dl (aB sk) (aB dc))),(2,(.box 33 [(.p bI)])),(3,(.box 139 (kVL 5 6 1 3 7 2))),(4,(.mp (aF ([]:Lqb)) 0)),(5,(.box 207 [(.mp 4)])),(6,(vB5 dl (aB sk) (aB dc))),(7,(.box 209 [(.fn 153 [] [(.ptr 1 0),(.ptr 3 0)])]))],.x (.sl ((aB dc).length) ((aB dc).flatten.map aA)),.k 1 ⟨(rng [(0,1),(2,2),(7,1),(10,16),(29,14)]),[1,2,3,4,5,6,7,8,9],[],[(9,3)]⟩ (.exit 0) (jM dl sk dc o'0.length (o'0.map aA) i'1 (aF t'2) t'2.length)]) (l:=[_,(aI dl (aB sk) (aB dc))[2]? = some (.sl ((aB dc).length) ((aB dc).flatten.map aA)),FC Tp 87 [(.rp (aI dl (aB sk) (aB dc)) 0),(.p bI)] [] 1 (.agg (kVL 5 6 1 3 7 2)) [(1,(vB0 dl (aB sk) (aB dc))),(2,(.box 33 [(.p bI)])),(3,(.box 139 (kVL 5 6 1 3 7 2))),(4,(.mp (aF ([]:Lqb)) 0)),(5,(.box 207 [(.mp 4)])),(6,(vB5 dl (aB sk) (aB dc))),(7,(.box 209 [(.fn 153 [] [(.ptr 1 0),(.ptr 3 0)])]))],_,_]) (by kernel_rfl) (gc hl1.code (gc rfl (gc (FMM.fcN (k:=7) rfl (ids:=[]) (sM (dl:=dl) (sk:=(aB sk)) (dc:=(aB dc))) (by kernel_rfl)) (gc wY (gc (fk 1 (gW dl sk dc h0) rfl) gn)))))) (by kernel_rfl)
theorem bVb{r0:Int}(h0:uni 2 sk)(h1:uni 6 dc)(h2:(dC dl sk dc)≠0)(er0:r0=(dC dl sk dc)){base:Nat}:FV Tp 122 [(.p (.agg (bB dl sk dc))),(.fn 123 [] [])] base (.tup [(.p bI),(pI r0)]) []:=by
 subst er0;exact FV.frz (FMM.fin (k:=0) (g:=⟨[],[],[],[]⟩) rfl Tryz.func122 rfl (o:=[.c (.tup [(.p (.v (.pointer none))),(pI (dC dl sk dc))]) [],bT]) (l:=[_,_]) (by kernel_rfl) (gc (iD h2) (gc (fk 1 (vQ dl sk dc h0 h1 h2) rfl) gn))) (by kernel_rfl)
theorem bAj{o:List Int}{i:Nat}{t:Lqb}{y100 y101 y102 y103 y104 y105:Int}{b106:Bool}{T107:Lqb}{o':List Int}{i':Nat}{t':Lqb}(h0:(i:Int)<(((aB dc).length:Nat):Int))(h1:(aB dc)[i]? = some [y100,y101,y102,y103,y104,y105])(h2:uni 6 (aB dc))(h3:aLq 123 dl (aB sk) (aB dc) bI [y100,y101,y102,y103,y104,y105] b106 t T107)(h4:b106=true)(h5:[(aA y100)].length=1*1∧o.length+1≤1000000)(h6:inR (((i+1):Nat):Int))(eo'n:o'.length=(o.length+1))(eo'c:o'.map aA=((o.map aA)++[(aA y100)]))(ei':i'=(i+1))(et'e:aF t'=(aF T107))(et'k:t'.length=T107.length):aC Tp 0 lR (jM dl sk dc o.length (o.map aA) i (aF t) t.length) .normal (jM dl sk dc o'.length (o'.map aA) i' (aF t') t'.length):=by
 subst ei';have raw:aC Tp 0 lR (jM dl sk dc o.length (o.map aA) i (aF t) t.length) .normal (jM dl sk dc (o.length+1) ((o.map aA)++[(aA y100)]) (i+1) (aF T107) T107.length):=aC.fin (g:=⟨(rng [(0,1),(2,2),(7,1),(10,16),(29,14)]),[0,1,2,3,4,5,6,7,11],[],[]⟩) (o:=[bT,.x (dcE y100 y101 y102 y103 y104 y105),.c (pB b106) (vU dl (aB sk) (aB dc) bI T107),bT]) (l:=[_,_,_,FC Tp 123 [(.rp (aI dl (aB sk) (aB dc)) 0),fP,(.p (dcE y100 y101 y102 y103 y104 y105))] [(4,(.box 207 [(.mp 3)])),(5,(vB5 dl (aB sk) (aB dc))),(0,(vB0 dl (aB sk) (aB dc))),(2,vB2),(6,vB6),(1,(.box 33 [(.p bI)])),(3,(.mp (aF t) t.length))] 10 (pB b106) (vU dl (aB sk) (aB dc) bI T107),_,_,0≤(i:Int)∧(i:Int)<(((aB dc).length:Nat):Int)∧(i*6)<((aB dc).flatten.map aA).length,_]) (by kernel_rfl) (gc h6 (gc h5 (gc h4 (gc (FMM.fc (ids:=[0,1,2,3,4,5,6]) h3 (by kernel_rfl)) (gc (aL (i:=i) h2 h1) (gc (aW (i:=i) h2 h1) (gc (aV (k:=6) (i:=(i:Int)) (by decide) h2 (kQ1 _) h1) (gc (aQ h0) gn))))))))
 exact raw.cast (by rw [eo'n,eo'c,et'e,et'k])
theorem bAk{o:List Int}{i:Nat}{t:Lqb}{y100 y101 y102 y103 y104 y105:Int}{b106:Bool}{T107:Lqb}{i':Nat}{t':Lqb}(h0:(i:Int)<(((aB dc).length:Nat):Int))(h1:(aB dc)[i]? = some [y100,y101,y102,y103,y104,y105])(h2:uni 6 (aB dc))(h3:aLq 123 dl (aB sk) (aB dc) bI [y100,y101,y102,y103,y104,y105] b106 t T107)(h4:b106=false)(h5:inR (((i+1):Nat):Int))(ei':i'=(i+1))(et'e:aF t'=(aF T107))(et'k:t'.length=T107.length):aC Tp 0 lR (jM dl sk dc o.length (o.map aA) i (aF t) t.length) .normal (jM dl sk dc o.length (o.map aA) i' (aF t') t'.length):=by
 subst ei';have raw:aC Tp 0 lR (jM dl sk dc o.length (o.map aA) i (aF t) t.length) .normal (jM dl sk dc o.length (o.map aA) (i+1) (aF T107) T107.length):=aC.fin (g:=⟨(rng [(0,1),(2,2),(7,1),(10,16),(29,14)]),[0,1,2,3,4,5,6,7,8],[],[]⟩) (o:=[bT,.x (dcE y100 y101 y102 y103 y104 y105),.c (pB b106) (vU dl (aB sk) (aB dc) bI T107),bF]) (l:=[_,_,FC Tp 123 [(.rp (aI dl (aB sk) (aB dc)) 0),fP,(.p (dcE y100 y101 y102 y103 y104 y105))] [(4,(.box 207 [(.mp 3)])),(5,(vB5 dl (aB sk) (aB dc))),(0,(vB0 dl (aB sk) (aB dc))),(2,vB2),(6,vB6),(1,(.box 33 [(.p bI)])),(3,(.mp (aF t) t.length))] 10 (pB b106) (vU dl (aB sk) (aB dc) bI T107),_,_,0≤(i:Int)∧(i:Int)<(((aB dc).length:Nat):Int)∧(i*6)<((aB dc).flatten.map aA).length,_]) (by kernel_rfl) (gc h5 (gc h4 (gc (FMM.fc (ids:=[0,1,2,3,4,5,6]) h3 (by kernel_rfl)) (gc (aL (i:=i) h2 h1) (gc (aW (i:=i) h2 h1) (gc (aV (k:=6) (i:=(i:Int)) (by decide) h2 (kQ1 _) h1) (gc (aQ h0) gn)))))))
 exact raw.cast (by rw [et'e,et'k])
theorem bAl{o:List Int}{i:Nat}{t:Lqb}(h0:(((aB dc).length:Nat):Int)≤(i:Int)):aC Tp 0 lR (jM dl sk dc o.length (o.map aA) i (aF t) t.length) (.exit 0) (jM dl sk dc o.length (o.map aA) i (aF t) t.length):=by
 exact aC.fin (g:=⟨(rng [(0,1),(2,2),(7,1),(10,16),(29,14)]),[0,1,2,3,4,5,6,7,8],[],[]⟩) (o:=[bF]) (l:=[_]) (by kernel_rfl) (gc (aR h0) gn)
theorem bZp{ov:PV}{T:Lqb}{x0 x1 x2 x3 x4 x5:Int}{r0:Bool}(er0:r0=(cA dl [x0,x1,x2,x3,x4,x5])):FMM Tp 145 [(.rp (aI dl sk dc) 0),fP,(.p (dcE x0 x1 x2 x3 x4 x5))] (dG dl sk dc ov T) (pB r0) (dG dl sk dc ov T):=by
 subst er0;exact FMM.fin (k:=7) (g:=⟨[],[],[],[]⟩) rfl Tryz.func145 rfl (o:=[.c (pB (cA dl [x0,x1,x2,x3,x4,x5])) []]) (l:=[_]) (by kernel_rfl) (gc (fk 9 (aCm dl sk dc x0 x1 x2 x3 x4 x5) rfl) gn)
theorem bZq{ov:PV}{T:Lqb}{x0 x1 x2 x3 x4 x5:Int}{b0:Bool}{T1:Lqb}(h0:qL dl sk dc ov [x0,x1,x2,x3,x4,x5] b0 T T1):FMM Tp 123 [(.rp (aI dl sk dc) 0),fP,(.p (dcE x0 x1 x2 x3 x4 x5))] (dG dl sk dc ov T) (pB b0) (dG dl sk dc ov T1):=by
 exact FMM.fin (k:=7) (g:=⟨[],[],[],[]⟩) rfl Tryz.func123 rfl (o:=[.c (pB b0) (vU dl sk dc ov T1)]) (l:=[FC Tp 154 [(.p (dcE x0 x1 x2 x3 x4 x5)),(.ptr 4 0),(.ptr 5 0),(.ptr 0 0),(.ptr 2 0)] [(4,(.box 207 [(.mp 3)])),(5,(vB5 dl sk dc)),(0,(vB0 dl sk dc)),(2,vB2),(3,(.mp (aF T) T.length)),(6,vB6),(1,(.box 33 [(.p ov)]))] 9 (pB b0) (vU dl sk dc ov T1)]) (by kernel_rfl) (gc (FMM.fc (ids:=[0,1,2,3,4,5,6]) h0 (by kernel_rfl)) gn)
theorem bVc{n y0 y1 y2 y3 y4 y5:Int}(h0:cM dl sk dc)(h1:cS .i64 (atF (aB dc).reverse) (.int .i64 n))(h2:(dV (atF (aB dc).reverse) (.int .i64 n))=true)(h3:fJ (atF (aB dc).reverse) (.int .i64 n)=some (dcE y0 y1 y2 y3 y4 y5)){base:Nat}:FV Tp 127 [(.p (.agg (bB dl sk dc))),(pI n)] base (.tup [(.rp (aI dl (aB sk) (aB dc)) 0),(.p (dcE y0 y1 y2 y3 y4 y5)),(pI 0)]) []:=by
 exact FV.fin Tryz.func127 rfl (o:=[.c (.tup [(.rp (aI dl (aB sk) (aB dc)) 0),(pI 0)]) [],bF,.x (.mp (atF (aB dc).reverse)),bT,.x (dcE y0 y1 y2 y3 y4 y5)]) (l:=[_,_,_,(aI dl (aB sk) (aB dc))[3]? = some (.mp (atF (aB dc).reverse)),_,_]) (by kernel_rfl) (gc h3 (gc h2 (gc h1 (gc rfl (gc wY (gc (fk 2 (gW dl sk dc h0) rfl) gn))))))
theorem bVd{n:Int}(h0:cM dl sk dc)(h1:cS .i64 (atF (aB dc).reverse) (.int .i64 n))(h2:(dV (atF (aB dc).reverse) (.int .i64 n))=false){base:Nat}:FV Tp 127 [(.p (.agg (bB dl sk dc))),(pI n)] base (.tup [(.p (.v (.pointer none))),(.p (dcE 0 0 0 0 0 0)),(pI 1)]) []:=by
 exact FV.fin Tryz.func127 rfl (o:=[.c (.tup [(.rp (aI dl (aB sk) (aB dc)) 0),(pI 0)]) [],bF,.x (.mp (atF (aB dc).reverse)),bF]) (l:=[_,_,(aI dl (aB sk) (aB dc))[3]? = some (.mp (atF (aB dc).reverse)),_,_]) (by kernel_rfl) (gc h2 (gc h1 (gc rfl (gc wY (gc (fk 2 (gW dl sk dc h0) rfl) gn)))))
theorem bVe{n r0:Int}(h0:uni 2 sk)(h1:uni 6 dc)(h2:(dC dl sk dc)≠0)(er0:r0=(dC dl sk dc)){base:Nat}:FV Tp 127 [(.p (.agg (bB dl sk dc))),(pI n)] base (.tup [(.p (.v (.pointer none))),(.p (dcE 0 0 0 0 0 0)),(pI r0)]) []:=by
 subst er0;exact FV.fin Tryz.func127 rfl (o:=[.c (.tup [(.p (.v (.pointer none))),(pI (dC dl sk dc))]) [],bT]) (l:=[_,_]) (by kernel_rfl) (gc (iD h2) (gc (fk 2 (vQ dl sk dc h0 h1 h2) rfl) gn))
def iT(dl:Int)(sk:Lqq)(dc:Lqq)(u0:Int)(u1:Int)(u2:Int)(u3:Int)(u4:Int)(u5:Int):St:=⟨fr 26 [(0,(.rp (aI dl sk dc) 0)),(3,(.ptr 0 0))],[some (.box 44 [(pI u0),(pI u1),(pI u2),(pI u3),(pI u4),(pI u5)])]⟩
theorem bVf{x0 x1 x2 x3 x4 x5 u0'0 u1'1 u2'2 u3'3 u4'4 u5'5:Int}(hl0:aE Tp 0 aCk (iT dl sk dc x0 x1 x2 x3 x4 x5) (.exit 0) (iT dl sk dc u0'0 u1'1 u2'2 u3'3 u4'4 u5'5)){base:Nat}:FV Tp 128 [(.rp (aI dl sk dc) 0),(.p (dcE x0 x1 x2 x3 x4 x5))] base (pI u3'3) []:=by
 exact FV.fin Tryz.func128 rfl (o:=[.k 4 ⟨(rng [(1,2),(4,20)]),[0],[],[]⟩ (.exit 0) (iT dl sk dc u0'0 u1'1 u2'2 u3'3 u4'4 u5'5)]) (l:=[_]) (by kernel_rfl) (gc hl0.code gn)
theorem bVg{x0 x1 x2 x3 x4 x5 u0'0 u1'1 u2'2 u3'3 u4'4 u5'5:Int}(hl0:aE Tp 0 aCk (iT dl sk dc x0 x1 x2 x3 x4 x5) .ret (bG (iT dl sk dc u0'0 u1'1 u2'2 u3'3 u4'4 u5'5) [(4,(pI 0))])){base:Nat}:FV Tp 128 [(.rp (aI dl sk dc) 0),(.p (dcE x0 x1 x2 x3 x4 x5))] base (pI 0) []:=by
 exact FV.fin Tryz.func128 rfl (o:=[.k 4 ⟨(rng [(1,2),(4,20)]),[0],[],[]⟩ .ret (bG (iT dl sk dc u0'0 u1'1 u2'2 u3'3 u4'4 u5'5) [(4,(pI 0))])]) (l:=[_]) (by kernel_rfl) (gc hl0.code gn)
theorem bAm{u0 u1 u2 u3 u4 u5 y100 y101 y102 y103 y104 y105:Int}(h0:(decide (u1≤4))=false)(h1:cS .i64 (atF dc.reverse) (.int .i64 u5))(h2:(dV (atF dc.reverse) (.int .i64 u5))=true)(h3:fJ (atF dc.reverse) (.int .i64 u5)=some (dcE y100 y101 y102 y103 y104 y105)):aC Tp 0 aCk (iT dl sk dc u0 u1 u2 u3 u4 u5) .normal (iT dl sk dc y100 y101 y102 y103 y104 y105):=by
 exact aC.fin (g:=⟨(rng [(1,2),(4,20)]),[0],[],[]⟩) (o:=[.c (pB (decide (u1≤4))) [],bT,.x (.mp (atF dc.reverse)),bT,.x (dcE y100 y101 y102 y103 y104 y105)]) (l:=[_,_,_,(aI dl sk dc)[3]? = some (.mp (atF dc.reverse)),_,_]) (by kernel_rfl) (gc h3 (gc h2 (gc h1 (gc rfl (gc (cP h0) (gc (fk 1 (eV u1) rfl) gn))))))
theorem aFo{u0 u1 u2 u3 u4 u5:Int}(h0:(decide (u1≤4))=false)(h1:cS .i64 (atF dc.reverse) (.int .i64 u5))(h2:(dV (atF dc.reverse) (.int .i64 u5))=false):aC Tp 0 aCk (iT dl sk dc u0 u1 u2 u3 u4 u5) .ret (bG (iT dl sk dc u0 u1 u2 u3 u4 u5) [(4,(pI 0))]):=by
 exact aC.fin (g:=⟨(rng [(1,2),(5,19)]),[0],[],[]⟩) (o:=[.c (pB (decide (u1≤4))) [],bT,.x (.mp (atF dc.reverse)),bF]) (l:=[_,_,(aI dl sk dc)[3]? = some (.mp (atF dc.reverse)),_,_]) (by kernel_rfl) (gc h2 (gc h1 (gc rfl (gc (cP h0) (gc (fk 1 (eV u1) rfl) gn)))))
theorem aFp{u0 u1 u2 u3 u4 u5:Int}(h0:(decide (u1≤4))=true):aC Tp 0 aCk (iT dl sk dc u0 u1 u2 u3 u4 u5) (.exit 0) (iT dl sk dc u0 u1 u2 u3 u4 u5):=by
 exact aC.fin (g:=⟨(rng [(1,2),(4,20)]),[0],[],[]⟩) (o:=[.c (pB (decide (u1≤4))) [],bF]) (l:=[_,_]) (by kernel_rfl) (gc (bA h0) (gc (fk 1 (eV u1) rfl) gn))
end
section
def bHf(sk:Lqq)(bib:Int):Int:=bD (fun x=>decide (bib=x)) (aK sk 0)
theorem bUs{dl:Int}{sk dc:Lqq}(h:cM dl sk dc):uni 2 (aB sk)∧(aB sk).length≤1000∧(aK (aB sk) 0).length≤1000:=by
 have:=h.len;refine ⟨mM h.us,by rw [fM];omega,by rw [mG,fM];omega⟩
theorem bHg{dl:Int}{sk dc:Lqq}(h:cM dl sk dc){bib:Int}{i:Nat}{s0 s1:Int}(hp:bHf (aB sk) bib=(i:Int))(hs:(aB sk)[i]? = some [s0,s1]){base:Nat}:FV Tp 135 [.p (.agg (bB dl sk dc)),.p (aA bib)] base (.tup [oU dl (aB sk) (aB dc),.p (.agg [aA s0,aA s1]),.p (aA 0)]) []:=by
 obtain ⟨h1,h2,h3⟩:=bUs h;have hp':bD (fun x=>decide (bib=x)) (aK (aB sk) 0)=(i:Int):=hp
 exact bUw h ⟨h1,h2⟩ h3 (by rw [hp'];omega) (by rw [hp'];simpa using hs) (by rw [hp'];omega) h1
theorem bHh{dl:Int}{sk dc:Lqq}(h:cM dl sk dc){base:Nat}:FV Tp 19 [.p (.agg (bB dl sk dc))] base (.tup [.p (aG (aP dl (aB dc))),.p (aA 0)]) []:=aHw h (dQ h)
def bL(q:List Int→Bool)(dc:Lqq):List Int:=(dc.filter q).map dN
theorem bUt{dl:Int}{sk dc:Lqq}(h:cM dl sk dc)(q:List Int→Bool)
  (hq:∀ x∈aB dc,∀ T,cF dl [] (aB dc) T→∃ T',cF dl [] (aB dc) T'∧aLq 145 dl (aB sk) (aB dc) bI x (q x) T T') {base:Nat}:FV Tp 122 [.p (.agg (bB dl sk dc)),.fn 145 [] []] base (.tup [.p (aG (bL q (aB dc))),.p (aA 0)]) []:=by
 have hd:=dQ h;have hlen:=hd.len;obtain ⟨acc,⟨h1,h2⟩,h3⟩:=aE.ex (P:=Tp) (k:=0) (b:=sub (cd Tryz.f122) [1,1,1,1,1,0,1,0,0]) (e := .exit 0) (fun i (a:List Int × Lqb)=>jL dl sk dc a.1.length (a.1.map aA) i (aF a.2) a.2.length)
  (fun a=>jL dl sk dc a.1.length (a.1.map aA) (aB dc).length (aF a.2) a.2.length)
  (fun i a=>cF dl [] (aB dc) a.2∧a.1=(((aB dc).take i).filter q).map dN) (by simp) (aB dc).length
  (fun i acc hi hI=>by
   obtain ⟨o,T1⟩:=acc;obtain ⟨h1,h2⟩:=hI;dsimp only at h1 h2
   have hm:=fV hi;obtain ⟨a,k,c,d,e,f,hy⟩:=len6 (hd.ud _ hm);have hx:(aB dc)[i]? = some [a,k,c,d,e,f]:=by rw [kQ0 hi,hy]
   rw [hy] at hm
   have ho:o.length≤1000:=by
    rw [h2,fL];have:=rF q ((aB dc).take i);rw [nC] at this;omega
   have et:(((aB dc).take (i+1)).filter q).map dN=o++if q [a,k,c,d,e,f] then [a] else []:=by
    rw [List.take_add_one,hx,sQ,iY,← h2]
    congr 1
    show (List.filter q [[a,k,c,d,e,f]]).map dN=_;cases hq:q [a,k,c,d,e,f] <;> simp [hq]
   rw [et];obtain ⟨T2,q1,q2⟩:=hq _ hm T1 h1;cases hc:q [a,k,c,d,e,f] with
   | true =>
    rw [hc] at q2
    exact ⟨(o++[a],T2),⟨q1,by simp⟩,bAg (o:=o) (o':=o++[a]) (by omega) hx hd.ud q2 rfl ⟨rfl,by omega⟩ (aO (by omega)) (by simp) (by simp) rfl rfl rfl⟩
   | false =>
    rw [hc] at q2
    exact ⟨(o,T2),⟨q1,by simp⟩,bAh (by omega) hx hd.ud q2 rfl (aO (by omega)) rfl rfl rfl⟩)
  (fun acc hI=>bAi (by omega)) (acc:=([],[])) ⟨cF.nil,by simp⟩
 obtain ⟨o,T1⟩:=acc;dsimp only at h1 h2 h3
 rw [List.take_length] at h2
 rw [show bL q (aB dc)=o from h2.symm]
 exact bUy h h3
theorem bUu{dl:Int}{sk dc:Lqq}(h:cM dl sk dc)(q:List Int→Bool)
  (hq:∀ x∈aB dc,∀ T,cF dl [] (aB dc) T→∃ T',cF dl [] (aB dc) T'∧aLq 123 dl (aB sk) (aB dc) bI x (q x) T T') {base:Nat}:FV Tp 122 [.p (.agg (bB dl sk dc)),.fn 123 [] []] base (.tup [.p (aG (bL q (aB dc))),.p (aA 0)]) []:=by
 have hd:=dQ h;have hlen:=hd.len;obtain ⟨acc,⟨h1,h2⟩,h3⟩:=aE.ex (P:=Tp) (k:=0) (b:=sub (cd Tryz.f122) [1,1,1,1,1,0,1,0,0]) (e := .exit 0) (fun i (a:List Int × Lqb)=>jM dl sk dc a.1.length (a.1.map aA) i (aF a.2) a.2.length)
  (fun a=>jM dl sk dc a.1.length (a.1.map aA) (aB dc).length (aF a.2) a.2.length)
  (fun i a=>cF dl [] (aB dc) a.2∧a.1=(((aB dc).take i).filter q).map dN) (by simp) (aB dc).length
  (fun i acc hi hI=>by
   obtain ⟨o,T1⟩:=acc;obtain ⟨h1,h2⟩:=hI;dsimp only at h1 h2
   have hm:=fV hi;obtain ⟨a,k,c,d,e,f,hy⟩:=len6 (hd.ud _ hm);have hx:(aB dc)[i]? = some [a,k,c,d,e,f]:=by rw [kQ0 hi,hy]
   rw [hy] at hm
   have ho:o.length≤1000:=by
    rw [h2,fL];have:=rF q ((aB dc).take i);rw [nC] at this;omega
   have et:(((aB dc).take (i+1)).filter q).map dN=o++if q [a,k,c,d,e,f] then [a] else []:=by
    rw [List.take_add_one,hx,sQ,iY,← h2]
    congr 1
    show (List.filter q [[a,k,c,d,e,f]]).map dN=_;cases hq:q [a,k,c,d,e,f] <;> simp [hq]
   rw [et];obtain ⟨T2,q1,q2⟩:=hq _ hm T1 h1;cases hc:q [a,k,c,d,e,f] with
   | true =>
    rw [hc] at q2
    exact ⟨(o++[a],T2),⟨q1,by simp⟩,bAj (o:=o) (o':=o++[a]) (by omega) hx hd.ud q2 rfl ⟨rfl,by omega⟩ (aO (by omega)) (by simp) (by simp) rfl rfl rfl⟩
   | false =>
    rw [hc] at q2
    exact ⟨(o,T2),⟨q1,by simp⟩,bAk (by omega) hx hd.ud q2 rfl (aO (by omega)) rfl rfl rfl⟩)
  (fun acc hI=>bAl (by omega)) (acc:=([],[])) ⟨cF.nil,by simp⟩
 obtain ⟨o,T1⟩:=acc;dsimp only at h1 h2 h3
 rw [List.take_length] at h2
 rw [show bL q (aB dc)=o from h2.symm]
 exact bVa h h3
theorem cAe{dl:Int}{sk dc:Lqq}{ov:PV}{x:List Int}(hx:x.length=6)(T:Lqb):aLq 145 dl sk dc ov x (cA dl x) T T:=by
 obtain ⟨a,b,c,d,e,f,rfl⟩:=len6 hx;exact bZp rfl
theorem cAf{dl:Int}{sk dc:Lqq}{oc:List Int}{ov:PV}(hd:cE dc)(hov:∀ n,rN ov n (oc.contains n)){x:List Int}(hx:x∈dc){T:Lqb}(hT:cF dl oc dc T):∃ T',cF dl oc dc T'∧aLq 123 dl sk dc ov x (cD dl oc dc x) T T':=by
 obtain ⟨T',h1,h2⟩:=bBg (sk:=sk) hd hov hx T hT;obtain ⟨a,b,c,d,e,f,rfl⟩:=len6 (hd.ud x hx);exact ⟨T',h1,bZq h2⟩
theorem aTq{q:Lqq}(hq:(q.map dN).Nodup):atF q=q.map fun x=>(.int .i64 (dN x),sV x):=by
 have key:∀ (q p:Lqq),((p++q).map dN).Nodup→q.foldl kW (p.map fun x=>(.int .i64 (dN x),sV x))=(p++q).map fun x=>(.int .i64 (dN x),sV x):=by
  intro q
  induction q with
  | nil=>intro p _;simp
  | cons x q ih =>
   intro p h;rw [yZ];have hn:dV (p.map fun x=>((.int .i64 (dN x),sV x):Value × PV)) (.int .i64 (dN x))=false:=by
    unfold dV;rw [List.any_eq_false];intro e he;obtain ⟨y,hy,rfl⟩:=fF.1 he;rw [iY,List.nodup_append] at h
    have:=h.2.2 (dN y) (fF.2 ⟨y,hy,rfl⟩) (dN x) (by simp)
    simpa [iX] using this
   have hst:kW (p.map fun x=>((.int .i64 (dN x),sV x):Value × PV)) x=(p.map fun x=>((.int .i64 (dN x),sV x):Value × PV))++[(.int .i64 (dN x),sV x)]:=by
    unfold kW;rw [hn,if_neg (by simp)]
   rw [hst];have e:(p.map fun x=>((.int .i64 (dN x),sV x):Value × PV))++[(.int .i64 (dN x),sV x)]=(p++[x]).map fun x=>((.int .i64 (dN x),sV x):Value × PV):=by simp
   have e2:p++x::q=(p++[x])++q:=by simp
   rw [e,ih (p++[x]) (by rw [← e2];exact h),e2]
 exact key q [] (by simpa using hq)
theorem aLo{dc:Lqq}(h:cE dc):(dc.reverse.map dN).Nodup:=by
 rw [List.map_reverse,List.Nodup,List.pairwise_reverse,List.pairwise_map];exact h.up.imp fun h=>by omega
theorem pX{dc:Lqq}(h:cE dc){n:Int}(hn:inR n):cS .i64 (atF dc.reverse) (.int .i64 n):=by
 have ha:xC (atF dc.reverse):=bIe fun x hx=>by have:=eN h (aBn.1 hx);omega
 refine ⟨ha.ky,?_,ha.nd⟩;show (decide (IntKind.i64=IntKind.i64) && (Lit.int .i64 n).wf)=true;have:(Lit.int .i64 n).wf=true:=by
  have e1:IntKind.i64.min = -9223372036854775808:=rfl;have e2:IntKind.i64.max=9223372036854775807:=rfl;unfold inR at hn
  show (decide _ && decide _)=true;rw [kQ6,decide_eq_true_eq,decide_eq_true_eq,e1,e2];omega
 rw [this];rfl
theorem aHu{dc:Lqq}(h:cE dc){x:List Int}(hx:x∈dc):dV (atF dc.reverse) (.int .i64 (dN x))=true∧fJ (atF dc.reverse) (.int .i64 (dN x))=some (sV x):=by
 rw [aTq (aLo h)];have hf:dc.reverse.find? (fun y=>decide (dN y=dN x))=some x:=by
  cases hf:dc.reverse.find? (fun y=>decide (dN y=dN x)) with
  | none =>
   have:=aBm.1 hf x (aBn.2 hx);simp at this
  | some y =>
   have h1:=vJ hf;have h2:dN y=dN x:=by simpa using aWk hf
   rw [zQ h (aBn.1 h1) hx h2]
 constructor
 ·unfold dV
  rw [List.any_map];exact List.any_eq_true.2 ⟨x,aBn.2 hx,by simp [iX]⟩
 ·unfold fJ
  rw [List.find?_map];have e:(fun e:Value × PV=>decide (iX e.1=iX (Value.int IntKind.i64 (dN x)))) ∘ (fun x:List Int=>((Value.int .i64 (dN x),sV x):Value × PV))=fun y=>decide (dN y=dN x):=rfl
  rw [e,hf];rfl
theorem aHv{dc:Lqq}(h:cE dc){n:Int}(hn:∀ x∈dc,dN x≠n):dV (atF dc.reverse) (.int .i64 n)=false:=by
 rw [aTq (aLo h)];unfold dV;rw [List.any_map,List.any_eq_false];intro x hx;have:=hn x (aBn.1 hx);show ¬ (decide (dN x=n))=true;simpa using this
def ofN(dc:Lqq)(n:Int):Option (List Int):=dc.find? fun x=>dN x == n
theorem iZ{dc:Lqq}{n:Int}{x:List Int}(h:ofN dc n=some x):x∈dc∧dN x=n:=⟨vJ h,by simpa using aWk h⟩
theorem aCj{dc:Lqq}{n:Int}(h:ofN dc n=none):∀ x∈dc,dN x≠n:=fun x hx=>by simpa using aBm.1 h x hx
theorem aTr{dc:Lqq}(hd:cE dc){x:List Int}(hx:x∈dc):ofN dc (dN x)=some x:=by
 cases h:ofN dc (dN x) with
 | none=>exact absurd rfl (aCj h x hx)
 | some y=>obtain ⟨h1,h2⟩:=iZ h;rw [zQ hd h1 hx h2]
theorem aQe{dl:Int}{sk dc:Lqq}(h:cM dl sk dc){n:Int}{x0 x1 x2 x3 x4 x5:Int}(hn:ofN (aB dc) n=some [x0,x1,x2,x3,x4,x5]){base:Nat}:FV Tp 127 [.p (.agg (bB dl sk dc)),.p (aA n)] base (.tup [oU dl (aB sk) (aB dc),.p (.agg [aA x0,aA x1,aA x2,aA x3,aA x4,aA x5]),.p (aA 0)]) []:=by
 obtain ⟨h1,h2⟩:=iZ hn;have hd:=dQ h;obtain ⟨h3,h4⟩:=aHu hd h1;have hr:=eN hd h1;have hk:=pX hd (n:=n) (by unfold inR;omega)
 rw [h2] at h3 h4
 exact bVc h hk h3 h4
theorem bHi{dl:Int}{sk dc:Lqq}(h:cM dl sk dc){n:Int}(hr:inR n)(hn:ofN (aB dc) n=none){base:Nat}:FV Tp 127 [.p (.agg (bB dl sk dc)),.p (aA n)] base (.tup [.p (.v (.pointer none)),.p (.agg [aA 0,aA 0,aA 0,aA 0,aA 0,aA 0]),.p (aA 1)]) []:=by
 have hd:=dQ h;exact bVd h (pX hd hr) (aHv hd (aCj hn))
theorem aTs{dl:Int}{sk dc:Lqq}(us:uni 2 sk)(ud:uni 6 dc)(h:dC dl sk dc≠0){n:Int}{base:Nat}:FV Tp 127 [.p (.agg (bB dl sk dc)),.p (aA n)] base (.tup [.p (.v (.pointer none)),.p (.agg [aA 0,aA 0,aA 0,aA 0,aA 0,aA 0]),.p (aA (dC dl sk dc))]) []:=bVe us ud h rfl
def kK(dc:Lqq):Nat→List Int→Int
 | 0,_=>0
 | k+1,x=>if dK x≤4 then dB x else match ofN dc (dAb x) with
  | some y=>kK dc k y
  | none=>0
def gV(dc:Lqq)(x:List Int):Int:=kK dc (10000+1) x
theorem bUv{dl:Int}{sk dc:Lqq}(hd:cE dc):∀ (k:Nat) (a b c d e f:Int),inR f→([a,b,c,d,e,f]∈dc∨b≤4∨∀ y∈dc,dN y≠f)→a<(k:Int) →
  (∃ a' b' c' d' e' f',kK dc (k+1) [a,b,c,d,e,f]=d'∧aE Tp 0 (sub (cd Tryz.f128) [1,0,0,0]) (iT dl sk dc a b c d e f) (.exit 0) (iT dl sk dc a' b' c' d' e' f')) ∨
  (kK dc (k+1) [a,b,c,d,e,f]=0∧∃ a' b' c' d' e' f',aE Tp 0 (sub (cd Tryz.f128) [1,0,0,0]) (iT dl sk dc a b c d e f) .ret (bG (iT dl sk dc a' b' c' d' e' f') [(4,.p (aA 0))])):=by
 intro k
 induction k with
 | zero =>
  intro a b c d e f hf hm hk
  by_cases h4:b≤4
  ·refine .inl ⟨a,b,c,d,e,f,?_,.exit (aFp (decide_eq_true h4)) (by simp)⟩
   unfold kK;rw [if_pos (show dK [a,b,c,d,e,f]≤4 from h4)];rfl
  ·rcases hm with hm | hm | hm
   ·have:1≤a:=(eN hd hm).1
    omega
   ·exact absurd hm h4
   ·refine .inr ⟨?_,a,b,c,d,e,f,.exit (aFo (decide_eq_false h4) (pX hd hf) (aHv hd hm)) (by simp)⟩
    unfold kK;rw [if_neg (show ¬ dK [a,b,c,d,e,f]≤4 from h4)]
    have:ofN dc (dAb [a,b,c,d,e,f])=none:=by
     cases h:ofN dc (dAb [a,b,c,d,e,f]) with
     | none=>rfl
     | some y=>exact absurd (iZ h).2 (hm y (iZ h).1)
    rw [this]
 | succ k ih =>
  intro a b c d e f hf hm hk
  by_cases h4:b≤4
  ·refine .inl ⟨a,b,c,d,e,f,?_,.exit (aFp (decide_eq_true h4)) (by simp)⟩
   unfold kK;rw [if_pos (show dK [a,b,c,d,e,f]≤4 from h4)];rfl
  ·have hu:kK dc (k+1+1) [a,b,c,d,e,f]=match ofN dc (dAb [a,b,c,d,e,f]) with | some y=>kK dc (k+1) y | none=>0:=by
    conv=>lhs;unfold kK
    rw [if_neg (show ¬ dK [a,b,c,d,e,f]≤4 from h4)]
   rw [hu];cases h:ofN dc (dAb [a,b,c,d,e,f]) with
   | none=>exact .inr ⟨rfl,a,b,c,d,e,f,.exit (aFo (decide_eq_false h4) (pX hd hf) (aHv hd (aCj h))) (by simp)⟩
   | some y =>
    obtain ⟨h1,h2⟩:=iZ h
    rcases hm with hm | hm | hm
    ·obtain ⟨h3,h5⟩:=aHu hd h1
     rw [h2] at h3 h5
     have ho:=hd.ord _ hm;unfold orB at ho
     rw [if_neg (show ¬ [a,b,c,d,e,f].getD 1 0≤4 from h4)] at ho
     have ho2:=bY.1 ho;have ho3:f≤a-1:=ho2.2;obtain ⟨y0,y1,y2,y3,y4,y5,rfl⟩:=len6 (hd.ud y h1);have h2':y0=f:=h2;have hy5:=kV hd _ h1;have hst:=bAm (dl:=dl) (sk:=sk) (dc:=dc) (u0:=a) (u1:=b) (u2:=c) (u3:=d) (u4:=e) (u5:=f) (decide_eq_false h4) (pX hd hf) h3 h5
     rcases ih y0 y1 y2 y3 y4 y5 (by have q1:0≤y5:=hy5.1;have q2:y5≤9998:=hy5.2;unfold inR;omega) (.inl h1) (by omega) with ⟨a',b',c',d',e',f',q1,q2⟩ | ⟨q1,a',b',c',d',e',f',q2⟩
     ·exact .inl ⟨a',b',c',d',e',f',q1,.step hst q2⟩
     ·exact .inr ⟨q1,a',b',c',d',e',f',.step hst q2⟩
    ·exact absurd hm h4
    ·exact absurd h2 (hm y h1)
theorem aQf{dl:Int}{sk dc:Lqq}(hd:cE dc){a b c d e f:Int}(hf:inR f)(hm:[a,b,c,d,e,f]∈dc∨b≤4∨∀ y∈dc,dN y≠f)(ha:a≤9999){base:Nat}:FV Tp 128 [oU dl sk dc,.p (.agg [aA a,aA b,aA c,aA d,aA e,aA f])] base (.p (aA (gV dc [a,b,c,d,e,f]))) []:=by
 unfold gV
 rcases bUv (dl:=dl) (sk:=sk) hd 10000 a b c d e f hf hm (by omega) with ⟨a',b',c',d',e',f',q1,q2⟩ | ⟨q1,a',b',c',d',e',f',q2⟩
 ·rw [q1];exact bVf q2
 ·rw [q1];exact bVg q2
end
section
theorem bRf(dl:Int)(q:List Int)(x:List Int)(T:List DS):cZ dl (mkS dl q x T)=(cA dl x,(mR x (!cA dl x) (eB T (dN x))).1,eM (dK x) && ((mR x (!cA dl x) (eB T (dN x))).1 && !(mR x (!cA dl x) (eB T (dN x))).2.2.2.2.2),
  (mR x (!cA dl x) (eB T (dN x))).2.1 || (!(mR x (!cA dl x) (eB T (dN x))).2.2.2.2.2 && q.contains (dN x)),(mR x (!cA dl x) (eB T (dN x))).2.2.1,(mR x (!cA dl x) (eB T (dN x))).2.2.2.1,(mR x (!cA dl x) (eB T (dN x))).2.2.2.2.1):=by
 unfold cZ mkS mR;dsimp only;cases h1:(eB T (dN x)).find? prB with
 | none=>cases h2:(eB T (dN x)).find? pcB with
  | none=>simp [uOf,mOf,nOf]
  | some z=>simp [uOf,mOf,nOf]
 | some y=>cases h2:(eB T (dN x)).find? pcB with
  | none=>simp [uOf,mOf,nOf]
  | some z=>simp [uOf,mOf,nOf]
section
variable {dl:Int} {sk dc:Lqq} {q:List Int}
theorem bPt{dc:Lqq}(hd:cE dc){x:List Int}(hx:x∈dc):dK x≤9:=by
 have:=gU.1 (hd.rng x hx);exact this.2.1.2
theorem aXb(hd:cE dc){a r:Lqq}{y100 y101 y102 y103 y104 y105:Int}(hdc:dc=a++[y100,y101,y102,y103,y104,y105]::r)(c0:Bool){LL:List RS}(hLL:LL=List.replicate (a.length+1) rs0++(bS dl q r).map (cZ dl))(l aa:Bool){A:Acc}(hA:A=mR [y100,y101,y102,y103,y104,y105] c0 (eB (bS dl q r) y100)) :
  aE Tp 0 (sub (cd Tryz.f75) [1,1,0,1,0,0,1,0,0,1,1,1,1,1,1,0,1,0,0]) (bX dl sk dc q (a.length:Int) LL y100 y101 y102 y103 y104 y105 ((LL.length:Int)-(1:Int)) l aa c0 false y104 0 0 false) (.exit 2) (bX dl sk dc q (a.length:Int) LL y100 y101 y102 y103 y104 y105 (a.length:Int) l aa A.1 A.2.1 A.2.2.1 A.2.2.2.1 A.2.2.2.2.1 A.2.2.2.2.2):=by
 have hl1:LL.length=a.length+1+r.length:=by rw [hLL];simp [kJ]
 have hl2:dc.length=a.length+1+r.length:=by rw [hdc];simp;omega
 have hlen:=hd.len;have hrm:∀ s∈bS dl q r,1≤dN s.x∧dK s.x≤9:=fun s hs=>by
  have hm:s.x∈dc:=by
   have:s.x∈r:=by
    have:=aWi (f:=fun s:DS=>s.x) hs
    rwa [uG] at this
   rw [hdc];exact aBl _ (kQ7 _ this)
  exact ⟨(eN hd hm).1,bPt hd hm⟩
 have hx9:dK [y100,y101,y102,y103,y104,y105]≤9:=bPt hd (by rw [hdc];simp)
 have:=aE.range (P:=Tp) (k:=0) (b:=sub (cd Tryz.f75) [1,1,0,1,0,0,1,0,0,1,1,1,1,1,1,0,1,0,0]) (e := .exit 2) (fun t (A:Acc)=>bX dl sk dc q (a.length:Int) LL y100 y101 y102 y103 y104 y105 ((LL.length:Int)-1-(t:Int)) l aa A.1 A.2.1 A.2.2.1 A.2.2.2.1 A.2.2.2.2.1 A.2.2.2.2.2)
  (fun A=>bX dl sk dc q (a.length:Int) LL y100 y101 y102 y103 y104 y105 (a.length:Int) l aa A.1 A.2.1 A.2.2.1 A.2.2.2.1 A.2.2.2.2.1 A.2.2.2.2.2) (aOw (dN [y100,y101,y102,y103,y104,y105]) (dK [y100,y101,y102,y103,y104,y105])) (fun _ _=>True) (by simp) (bS dl q r).reverse (a0:=(c0,false,dMu [y100,y101,y102,y103,y104,y105],0,0,false)) trivial
  (fun t s A hs _=>by
   refine ⟨trivial,?_⟩;have ht:=aT hs;rw [List.length_reverse,kJ] at ht
   have hs':(bS dl q r)[r.length-1-t]? = some s:=by
    rw [List.getElem?_reverse (by rw [kJ];exact ht),kJ] at hs
    exact hs
   have hr:r[r.length-1-t]? = some s.x:=by
    have:=congrArg (fun l=>l[r.length-1-t]?) (uG dl q r)
    simp only [gM,hs'] at this
    exact this.symm
   have hdcj:dc[a.length+1+(r.length-1-t)]? = some s.x:=by
    rw [hdc,show a++[y100,y101,y102,y103,y104,y105]::r=(a++[[y100,y101,y102,y103,y104,y105]])++r by simp,wR (by simp)]
    simp only [oS,vK,List.length_nil];rw [show a.length+1+(r.length-1-t)-(a.length+(0+1))=r.length-1-t by omega]
    exact hr
   have hLj:LL[a.length+1+(r.length-1-t)]? = some (cZ dl s):=by
    rw [hLL,wR (by simp),List.length_replicate,Nat.add_sub_cancel_left,gM,hs']
    rfl
   obtain ⟨z0,z1,z2,z3,z4,z5,hz⟩:=len6 (hd.ud _ (kQ4 hdcj));have hkt:((LL.length:Int)-1-(t:Int)).toNat=a.length+1+(r.length-1-t):=by omega
   have e:((LL.length:Int)-1-((t+1:Nat):Int))=(LL.length:Int)-1-(t:Int)-1:=by omega
   rw [hz] at hdcj
   show aC Tp 0 _ _ .normal (bX dl sk dc q (a.length:Int) LL y100 y101 y102 y103 y104 y105 ((LL.length:Int)-1-((t+1:Nat):Int)) l aa _ _ _ _ _ _);rw [e];unfold aOw;rw [hz];exact bKy (by omega) (by rw [hkt];exact hdcj) (by omega) hd.ud (by omega) (by rw [hkt];exact hLj) (by unfold inR;omega))
  (fun A _=>by
   have e:((LL.length:Int)-1-(((bS dl q r).reverse.length:Nat):Int))=(a.length:Int):=by
    rw [List.length_reverse,kJ];omega
   show aC Tp 0 _ (bX dl sk dc q (a.length:Int) LL y100 y101 y102 y103 y104 y105 ((LL.length:Int)-1-(((bS dl q r).reverse.length:Nat):Int)) l aa _ _ _ _ _ _) _ _;rw [e];exact aPg (aWm _))
 rw [aKw hx9 c0 hrm] at this
 rw [hA];have e0:((LL.length:Int)-1-((0:Nat):Int))=(LL.length:Int)-1:=by omega
 simp only [e0] at this
 exact this
theorem bRg(hd:cE dc)(hq:q.length≤1000){base:Nat}:FV Tp 75 [.p (.agg (bB dl sk dc)),.p (aG q)] base (.own base) [(base,.row 121 ((bS dl q dc).map (cZ dl)).length ((((bS dl q dc).map (cZ dl)).map rsE).flatten))]:=by
 have hlen:=hd.len;obtain ⟨L,hI,hL⟩:=aE.ex (P:=Tp) (k:=0) (b:=sub (cd Tryz.f75) [1,1,0,1,0,0]) (e := .exit 0) (fun t (L:List RS)=>dW dl sk dc q ((dc.length:Int)-1-(t:Int)) L.length ((L.map rsE).flatten)) (fun L=>dW dl sk dc q (-1) L.length ((L.map rsE).flatten))
  (fun t L=>L=List.replicate (dc.length-t) rs0++(bS dl q (dc.drop (dc.length-t))).map (cZ dl)) (by simp) dc.length
  (fun t L ht hL=>by
   have hi:dc.length-1-t<dc.length:=by omega
   have hdc:dc=dc.take (dc.length-1-t)++dc[dc.length-1-t]::dc.drop (dc.length-1-t+1):=by rw [← aKr hi,aOj]
   have hal:(dc.take (dc.length-1-t)).length=dc.length-1-t:=by rw [nC];omega
   have hmem:=fV hi;obtain ⟨y0,y1,y2,y3,y4,y5,hy⟩:=len6 (hd.ud _ hmem);rw [hy] at hdc
   have hx:dc[dc.length-1-t]? = some [y0,y1,y2,y3,y4,y5]:=by rw [kQ0 hi,hy]
   have hLL:L=List.replicate ((dc.take (dc.length-1-t)).length+1) rs0++(bS dl q (dc.drop (dc.length-1-t+1))).map (cZ dl):=by
    rw [hL,hal];rw [show dc.length-t=dc.length-1-t+1 by omega]
   have hll:L.length=dc.length:=by
    rw [hLL,hal];simp [kJ];omega
   have hst:=bGj (dl:=dl) (sk:=sk) (dc:=dc) (q:=q) (i:=((dc.take (dc.length-1-t)).length:Int)) (L:=L) (lt:=cA dl [y0,y1,y2,y3,y4,y5]) (A:=mR [y0,y1,y2,y3,y4,y5] (!cA dl [y0,y1,y2,y3,y4,y5]) (eB (bS dl q (dc.drop (dc.length-1-t+1))) y0)) rfl (by omega) (by rw [aWj,hal];exact hx) hd.ud (by omega) (by omega)
    (fun l aa=>aXb hd hdc _ hLL l aa rfl) (fun l c m b f o u=>bKx l c m b f _ o u hq)
   rw [aWj] at hst
   refine ⟨L.set (dc.take (dc.length-1-t)).length (cZ dl (mkS dl q [y0,y1,y2,y3,y4,y5] (bS dl q (dc.drop (dc.length-1-t+1))))),?_,?_⟩
   ·rw [hLL,bRh,hal,show dc.length-(t+1)=dc.length-1-t by omega]
    have:dc.drop (dc.length-1-t)=[y0,y1,y2,y3,y4,y5]::dc.drop (dc.length-1-t+1):=by rw [aKr hi,hy]
    rw [this];rfl
   ·have e1:((dc.length:Int)-1-(t:Int))=((dc.take (dc.length-1-t)).length:Int):=by omega
    have e2:((dc.length:Int)-1-((t+1:Nat):Int))=((dc.take (dc.length-1-t)).length:Int)-1:=by omega
    simp only [e1,e2];rw [bRf];exact hst)
  (fun L _=>by
   have e:((dc.length:Int)-1-(dc.length:Int)) = -1:=by omega
   simp only [e];exact aXi (by decide)) (acc:=List.replicate dc.length rs0) (by simp [bS])
 rw [aOn,List.drop_zero,List.replicate_zero,List.nil_append] at hI
 rw [← hI];have e0:((dc.length:Int)-1-((0:Nat):Int))=(dc.length:Int)-1:=by omega
 simp only [e0,List.length_replicate,List.map_replicate] at hL
 exact bRi ⟨by omega,by omega,by omega⟩ (by unfold inR;omega) hL
end
end
end KV
end Go.Proofs
section
namespace Go.Proofs
open Go.RowKit
namespace KV
variable {P:Program} {n:Nat}
def aFx{α:Type}(F:Fence)(n:Nat)(P:Program)(g:Nat)(lb:Array Value)(encs:α→Array Value)(R:α→World→World→Prop)(Kp:World→World→Prop)(S Sp:List α→Prop)(N:Nat)(w:World):Prop :=
 ∀ (l:Nat) (J Jx:List α→World→Prop) (W:World),Below w.heap.size w W→AbidesFrom W.heap.size J→AbidesFrom W.heap.size Jx →
  (∀ pre x W0 W1,J pre W0→W0.grownBy W1 none→R x W0 W1→pre.length<N→YieldAt F (n-1) P l (encs x) W1 fun e W' =>
   (e = .returned (.bool true)∧J (pre++[x]) W'∧Kp W0 W')∨(e = .returned (.bool false)∧Jx (pre++[x]) W')) →
  J [] W →
  CallsIn F n P g (#[.func (.yield l) #[] #[]]++lb) W fun e W'=>(∃ v,e = .returned v)∧((∃ xs,S xs∧J xs W')∨(∃ pre,Sp pre∧Jx pre W'))

def bJf{α:Type}(B:Nat)(Kp:World→World→Prop)(I:List α→World→Prop)(Ix:Code→List α→World→Prop)(xs:List α)(V W:World):Exit→Act→World→Prop
 | .normal,_,W'=>KeepsFrom B W W'∧Kp V W'∧I xs W'
 | .ret,_,W'=>KeepsFrom B W W'∧Ix .ret xs W'
 | .exit id,_,W'=>KeepsFrom B W W'∧Ix (.exit id) xs W'
 | .goto t,_,W'=>KeepsFrom B W W'∧Ix (.goto t) xs W'
 | .panic _,_,_=>False
 | .outgrown,_,_=>False

theorem sW{α:Type}{F:Fence}{g:Operand}{ps:Array Tmp}{assign body:Code}{Q:Exit→Act→World→Prop}{a:Act}{w:World}
  (hro:F.round=none) (h1:1≤n) {gf:Nat} {lb:Array Value} (hg:a.eval g = .func (.func gf) #[] lb) (hFg:F.fn gf) (eg:∀ args w,(callFunc gf args).run P w = .ok (.enter gf args) w)
  {encs:α→Array Value} {R:α→World→World→Prop} {Kp:World→World→Prop} {S Sp:List α→Prop} {N:Nat} {w0:World} (hseq:aFx F (n-1) P gf lb encs R Kp S Sp N w0)
  (hKt:∀ {A B C:World},Kp A B→Kp B C→Kp A C) (hKb:∀ (W:World) (l:Nat) (o o':Obj),w.heap.size≤l→W.heap[l]? = some o→o.isCells=false→o.isWalk=false→Kp W (W.putObj l o')) (hb0:Below w0.heap.size w0 w) (hps:∀ x,(encs x).size=ps.size)
  (I:List α→World→Prop) (Ix:Code→List α→World→Prop) (hI:OwnFrom w.heap.size I) (hIx:∀ c,OwnFrom w.heap.size (Ix c)) (h0:I [] w) (Ax:List α→α→World→Act→World→Prop) (hAx:∀ pre x V a',OwnFrom w.heap.size (fun (_:Unit) W=>Ax pre x V a' W))
  (hassign:∀ (l:Nat) (pre:List α) (x:α) (V W:World) (K:Act→World→Prop),I pre V→V.grownBy W none→R x V W→(∀ a' W',KeepsFrom w.heap.size W W'→Ax pre x V a' W'→K a' W') →
   assign.wpIn (F.inRound l) (n-1-1) P (Exit.then K (fun _ _ _=>False)) { tmps:=(ps.zip (encs x)).foldl (fun t (p,v)=>t.setIfInBounds p v) a.tmps,defers:=[] } W)
  (hbody:∀ (l:Nat) (pre:List α) (x:α) (a':Act) (V W:World),w.heap.size≤l→(∃ r,W.heap[l]? = some (.loop r))→Ax pre x V a' W→pre.length<N→body.wpIn (F.inRound l) (n-1-1) P (bJf w.heap.size Kp I Ix (pre++[x]) V W) a' W)
  (hdone:∀ (D:Nat) (xs:List α) (W:World),w.heap.size≤D→S xs→I xs W→W.heap[D]? = some (.deferred (some []))→Q .normal { a with defers:={ target := .collected D,args := #[] }::a.defers } W)
  (hstop:∀ (D:Nat) (c:Code) (pre:List α) (W:World),w.heap.size≤D→Sp pre→Ix c pre W→W.heap[D]? = some (.deferred (some []))→c.wpIn F n P Q { a with defers:={ target := .collected D,args := #[] }::a.defers } W) :
  (Code.rangeFunc g ps assign body).wpIn F n P Q a w:=by
 refine wpIn_rangeFunc fun fn hfn => ?_
 rw [hro];obtain ⟨rc,hrc⟩:∃ rc:LoopState→Option Code→Loop,rc=fun st pe=>{ state:=st,pending:=pe,fn,tmps:=a.tmps,params:=ps,assign,body,defers:=w.heap.size }:=⟨_,rfl⟩
 obtain ⟨W1,hW1⟩:∃ W1,(w.alloc (.deferred (some []))).alloc (.loop (rc .ready none))=W1:=⟨_,rfl⟩;have hsz:W1.heap.size=w.heap.size+2:=by rw [← hW1];simp
 have hL1:W1.heap[w.heap.size+1]? = some (.loop (rc .ready none)):=by
  have:=World.alloc_heap_new (w.alloc (.deferred (some []))) (.loop (rc .ready none));rw [World.size_alloc] at this
  rw [← hW1];exact this
 have hK1:W1.heap[w.heap.size]? = some (.deferred (some [])):=by
  rw [← hW1];exact (Below.heap_alloc _ _ _ (by simp)).trans (World.alloc_heap_new w _)
 have hI1:I [] W1:=by rw [← hW1];exact hI.alloc _ (hI.alloc _ h0)
 have hb1:Below w0.heap.size w0 W1:=by
  rw [← hW1];exact hb0.trans ((((Below.refl _ w).alloc (eG _) _).alloc (by simp) _).mono hb0.size)
 let Bk (st:LoopState) (pe:Option Code) (W:World):Prop:=W.heap[w.heap.size+1]? = some (.loop (rc st pe))∧W.heap[w.heap.size]? = some (.deferred (some []))
 have bkKeep:∀ {st:LoopState} {pe:Option Code} {A B:World} {row:Option Nat},Bk st pe A→A.grownBy B row→(∀ r,row=some r→∃ o:Obj,A.heap[r]? = some o∧o.isWalk=true)→Bk st pe B:=fun hs hg' hr =>
  ⟨(grownBy_keeps hg' hr hs.1 rfl).trans hs.1,(grownBy_keeps hg' hr hs.2 rfl).trans hs.2⟩
 have walkOwn:∀ {A:World} {row:Option Nat},(∀ r,row=some r→W1.heap.size≤r∧∃ o:Obj,A.heap[r]? = some o∧o.isWalk=true)→∀ r,row=some r→w.heap.size≤r∧∃ o:Obj,A.heap[r]? = some o∧o.isCells=false:=fun hr r e=>by
  obtain ⟨hB,o,ho,hw⟩:=hr r e;exact ⟨by omega,o,ho,Obj.not_cells_of_walk hw⟩
 refine ⟨w.heap.size+1,[{ target := .collected w.heap.size,args := #[] }],W1,{ target := .fn (.func gf) lb,args := #[.func (.yield (w.heap.size+1)) #[] #[]] },W1,gf,
  #[.func (.yield (w.heap.size+1)) #[] #[]]++lb,W1,?_,?_,?_,?_,fun _=>h1,?_⟩
 ·rw [← hW1,hrc];exact run_enterLoop_outer _ _ _ _ _
 ·simp only [resolve,hg]
  simp [go_sem]
 ·intro f' hf';simp [Target.leads] at hf';subst hf';exact hFg
 ·simp [invoke,go_sem,eg]
 ·refine (hseq (w.heap.size+1) (fun pre W=>I pre W∧Bk .ready none W) (fun pre W=>∃ c,Ix c pre W∧Bk .done (some c) W) W1 hb1
   (fun s A B row hs hg' hr=>⟨hI s A B row hs.1 hg' (walkOwn hr),bkKeep hs.2 hg' fun r e=>(hr r e).2⟩)
   (fun s A B row hs hg' hr=>by
    obtain ⟨c,hc,hb⟩:=hs;exact ⟨c,hIx c s A B row hc hg' (walkOwn hr),bkKeep hb hg' fun r e=>(hr r e).2⟩)
   ?_ ⟨hI1,hL1,hK1⟩).mono ?_
  ·-- a round
   rintro pre x V W ⟨hi,hbk⟩ hg' hR hlen;have hbW:=bkKeep hbk hg' (fun r e=>by cases e)
   have hlt:w.heap.size+1<W.heap.size:=(kQ9.1 hbW.1).1;have hy:=run_yield (P:=P) (args:=encs x) hbW.1 (by rw [hrc];exact hps x)
   rw [hrc] at hy
   refine ⟨fn,_,assign,body,hy,roundIn_of_wpIn hfn (hassign _ pre x V W _ hi hg' hR ?_)⟩;clear hy;intro a' Wa hkf hax;have hl:=hkf.same _ _ (by omega) hbW.1 rfl
   have hk:=hkf.same _ _ (eG _) hbW.2 rfl;have hlta:w.heap.size+1<Wa.heap.size:=(kQ9.1 hl).1;refine ⟨_,run_beginRound hl (by rw [hrc]),?_⟩
   have hl2:(Wa.putObj (w.heap.size+1) (.loop { rc .ready none with state := .busy })).heap[w.heap.size+1]? = some (.loop { rc .ready none with state := .busy }):=World.putObj_heap_same hlta
   have hk2:(Wa.putObj (w.heap.size+1) (.loop { rc .ready none with state := .busy })).heap[w.heap.size]? = some (.deferred (some [])):=(World.putObj_heap_other (by omega)).trans hk
   refine wpIn_mono (hbody _ pre x a' V _ (by omega) ⟨_,hl2⟩ ((hAx pre x V a').putObj (s:=()) _ hax (by omega) hl rfl) hlen) ?_
   have fin:∀ (jump:Option Code) (W3:World),KeepsFrom w.heap.size (Wa.putObj (w.heap.size+1) (.loop { rc .ready none with state := .busy })) W3 →
     (Instr.endRound (w.heap.size+1) jump).run P W3 = .ok (.bool jump.isNone) (W3.putObj (w.heap.size+1) (.loop (rc (if jump.isNone then .ready else .done) jump))) ∧
     W3.heap[w.heap.size+1]? = some (.loop { rc .ready none with state := .busy })∧Bk (if jump.isNone then .ready else .done) jump (W3.putObj (w.heap.size+1) (.loop (rc (if jump.isNone then .ready else .done) jump))):=fun jump W3 hk3=>by
    have hl3:=hk3.same _ _ (by omega) hl2 rfl
    have hrun:=run_endRound (P:=P) jump hl3;rw [hrc] at hrun
    refine ⟨by rw [hrc];exact hrun,hl3,?_⟩
    exact ⟨World.putObj_heap_same (kQ9.1 hl3).1,(World.putObj_heap_other (by omega)).trans (hk3.same _ _ (eG _) hk2 rfl)⟩
   rintro e a3 W3 hp;cases e with
   | normal =>
    obtain ⟨hk3,hkp3,hi3⟩:=hp;obtain ⟨hr,hl3,hb4⟩:=fin none W3 hk3;exact ⟨_,_,hr,.inl ⟨rfl,⟨hI.putObj _ hi3 (by omega) hl3 rfl,hb4⟩,hKt hkp3 (hKb _ _ _ _ (by omega) hl3 rfl rfl)⟩⟩
   | ret =>
    obtain ⟨hk3,hi3⟩:=hp;obtain ⟨hr,hl3,hb4⟩:=fin (some .ret) W3 hk3;exact ⟨_,_,hr,.inr ⟨rfl,.ret,(hIx _).putObj _ hi3 (by omega) hl3 rfl,hb4⟩⟩
   | exit id =>
    obtain ⟨hk3,hi3⟩:=hp;obtain ⟨hr,hl3,hb4⟩:=fin (some (.exit id)) W3 hk3;exact ⟨_,_,hr,.inr ⟨rfl,.exit id,(hIx _).putObj _ hi3 (by omega) hl3 rfl,hb4⟩⟩
   | goto t =>
    obtain ⟨hk3,hi3⟩:=hp;obtain ⟨hr,hl3,hb4⟩:=fin (some (.goto t)) W3 hk3;exact ⟨_,_,hr,.inr ⟨rfl,.goto t,(hIx _).putObj _ hi3 (by omega) hl3 rfl,hb4⟩⟩
   | panic ch=>exact hp.elim
   | outgrown=>exact hp.elim
  ·-- behind the iterator
   rintro e W2 ⟨⟨v,rfl⟩,(⟨xs,hS,hi,hb⟩ | ⟨pre,hSp,c,hi,hb⟩)⟩
   ·have:=run_endLoop (P:=P) hb.1 (by rw [hrc];simp)
    rw [hrc] at this
    exact ⟨none,_,this,hdone _ xs _ (eG _) hS (hI.putObj _ hi (by omega) hb.1 rfl) ((World.putObj_heap_other (by omega)).trans hb.2)⟩
   ·have:=run_endLoop (P:=P) hb.1 (by rw [hrc];simp)
    rw [hrc] at this
    exact ⟨some c,_,this,hstop _ c pre _ (eG _) hSp ((hIx c).putObj _ hi (by omega) hb.1 rfl) ((World.putObj_heap_other (by omega)).trans hb.2)⟩
end KV
end Go.Proofs
end
section
namespace Go.Proofs
open Go.RowKit
namespace KV
variable {P:Program} {C C0:Cx} {M M0:Mem} {w w0:World}
abbrev mI(l:List Int):AO := .row 3 l.length (l.map aA)
def bJc(P:Program)(x:List Int × Value)(W0 W1:World):Prop:=x.1.length≤1000∧∃ C1:Cx,aU P C1 [some (mI x.1)] W1∧Rep C1 [some (mI x.1)] W1 (.own 0) x.2∧∀ b,C1.ι 0=some b→W0.heap.size≤b

theorem pA{W0 W1:World}(hg:W0.grownBy W1 none)(b:Nat)(hb:b<W0.heap.size):W1.heap[b]? = W0.heap[b]? := hg.block b hb (fun e=>by cases e)
theorem bJd{M':Mem}{W0 W1:World}{x:List Int × Value}(hM:aU P C M' W0)(hg:W0.grownBy W1 none)(hR:bJc P x W0 W1) :
  ∃ C2,aU P C2 (M'++[some (mI x.1)]) W1∧Fr C M' W0 C2 (M'++[some (mI x.1)]) W1∧Rep C2 (M'++[some (mI x.1)]) W1 (.own M'.length) x.2:=by
 obtain ⟨_,C1,h1,h2,h3⟩:=hR
 let C2:Cx:={ ι:=fun i=>if i=M'.length then C1.ι 0 else C.ι i,κ:=fun i=>if i=M'.length then C1.κ 0 else C.κ i,F:=C.F }
 have old:∀ (i:Nat) (o:AO),M'[i]? = some (some o)→i<M'.length∧(M'++[some (mI x.1)])[i]? = some (some o)∧C2.ι i=C.ι i∧C2.κ i=C.κ i:=fun i o h=>by
  have hl:=(kQ3.1 h).1;refine ⟨hl,by rw [aBk hl];exact h,if_neg (by omega),if_neg (by omega)⟩
 have cls:∀ (i:Nat) (o:AO),(M'++[some (mI x.1)])[i]? = some (some o)→M'[i]? = some (some o)∨(i=M'.length∧o=mI x.1):=fun i o h=>by
  rcases Nat.lt_or_ge i M'.length with hl | hl
  ·rw [aBk hl] at h;exact .inl h
  ·rw [wR hl] at h
   cases hd:i-M'.length with
   | zero =>
    rw [hd] at h
    simp at h
    exact .inr ⟨by omega,h.symm⟩
   | succ j=>rw [hd] at h;simp at h
 have new:C2.ι M'.length=C1.ι 0∧C2.κ M'.length=C1.κ 0:=⟨if_pos rfl,if_pos rfl⟩;have f:Fr C M' W0 C2 (M'++[some (mI x.1)]) W1:=by
  refine ⟨hg.os,hg.tape,hg.output,hg.size,fun b hb _=>pA hg b hb,fun i o h => ?_,fun i o h ty n cs hm => ?_,fun i o h o' h' hl => ?_,fun i o b h hl hb => ?_,fun b h=>h,fun b h => .inl h⟩
  ·obtain ⟨_,q1,q2,q3⟩:=old i o h
   exact ⟨⟨o,q1⟩,q2,q3⟩
  ·rw [(old i o h).2.1] at hm;cases hm;exact ⟨cs,h⟩
  ·rw [(old i o h).2.1] at h';cases h';exact hl
  ·rcases cls i o h with q | ⟨rfl,rfl⟩
   ·rw [(old i o q).2.2.1] at hb;exact .inr ⟨i,o,q,hl,hb⟩
   ·rw [new.1] at hb;exact .inl (h3 b hb)
 have hL:=hM.le f;have hr0:=h1.row 0 3 x.1.length (x.1.map aA) rfl;refine ⟨C2,⟨fun i ty n cs hm => ?_,fun i ty cs hm => ?_,fun i es cl hm => ?_,fun i i' o1 o2 b q1 l1 q2 l2 e1 e2 => ?_,fun i o b hm hl hb => ?_,fun b hb=>kQ8 (hM.Fs b hb) hg.size,fun i o b hm hl hb => ?_⟩,f,?_⟩
 ·rcases cls i _ hm with q | ⟨rfl,q⟩
  ·obtain ⟨hlt,_,q2,q3⟩:=old i _ q
   rw [q2,q3]
   rcases hM.row _ _ _ _ q with h4 | ⟨b,arr,inf,p0,p1,p2,p3,p4,p5,p6,p7,p8⟩
   ·exact .inl h4
   ·exact .inr ⟨b,arr,inf,p0,by rw [pA hg b (hM.lt i _ b q rfl p0)];exact p1,p2,p3,p4,p5,p6,fun j hj=>(p7 j hj).mono hL.F hL.fz,p8⟩
  ·cases q
   rw [new.1,new.2]
   rcases hr0 with h4 | ⟨b,arr,inf,p0,p1,p2,p3,p4,p5,p6,p7,p8⟩
   ·exact .inl h4
   ·refine .inr ⟨b,arr,inf,p0,p1,p2,p3,p4,p5,p6,fun j hj => ?_,p8⟩
    have:=p7 j hj;revert this;rw [nU];generalize arr.getD j undef=u;intro h;cases h;exact .v _
 ·rcases cls i _ hm with q | ⟨rfl,q⟩
  ·obtain ⟨b,arr,p0,p1,p2,p3,p4⟩:=hM.box _ _ _ q
   exact ⟨b,arr,by rw [(old i _ q).2.2.1];exact p0,by rw [pA hg b (hM.lt i _ b q rfl p0)];exact p1,p2,fun j hj=>(p3 j hj).mono hL,p4⟩
  ·cases q
 ·rcases cls i _ hm with q | ⟨rfl,q⟩
  ·obtain ⟨b,arr,p0,p1,p2,p3⟩:=hM.mp _ _ _ q
   refine ⟨b,arr,by rw [(old i _ q).2.2.1];exact p0,by rw [pA hg b (hM.lt i _ b q rfl p0)];exact p1,p2,fun j hj => ?_⟩
   obtain ⟨en,r1,r2,r3,r4⟩:=p3 j hj;exact ⟨en,r1,r2,r3,r4.mono hL.F hL.fz⟩
  ·cases q
 ·rcases cls i _ q1 with c1 | ⟨rfl,rfl⟩ <;> rcases cls i' _ q2 with c2 | ⟨rfl,rfl⟩
  ·rw [(old i _ c1).2.2.1] at e1
   rw [(old i' _ c2).2.2.1] at e2
   exact hM.inj _ _ _ _ _ c1 l1 c2 l2 e1 e2
  ·rw [(old i _ c1).2.2.1] at e1
   rw [new.1] at e2
   have:=hM.lt _ _ _ c1 l1 e1;have:=h3 b e2;omega
  ·rw [new.1] at e1
   rw [(old i' _ c2).2.2.1] at e2
   have:=hM.lt _ _ _ c2 l2 e2;have:=h3 b e1;omega
  ·rfl
 ·rcases cls i _ hm with c1 | ⟨rfl,rfl⟩
  ·rw [(old i _ c1).2.2.1] at hb
   exact hM.nF _ _ _ c1 hl hb
  ·rw [new.1] at hb
   intro hF;have:=hM.Fs b hF;have:=h3 b hb;omega
 ·rcases cls i _ hm with c1 | ⟨rfl,rfl⟩
  ·rw [(old i _ c1).2.2.1] at hb
   exact kQ8 (hM.lt _ _ _ c1 hl hb) hg.size
  ·rw [new.1] at hb
   exact h1.lt 0 _ b rfl rfl hb
 ·cases h2 with
  | own _ _ q0 qa q =>
   refine .own _ _ q0 ⟨mI x.1,by rw [wR (eG _),aOn];rfl⟩ fun ty n cs hm => ?_
   rw [wR (eG _),aOn] at hm
   rw [new.1,new.2];exact q ty n cs hm

theorem qC:∀ {m m':Mem},nmM m=true→nmM m'=true→nmM (m++m')=true
 | [],_,_,h=>h
 | none::r,m',h,h'=>by
  have:nmM (r++m')=true:=qC (m:=r) h h';exact this
 | some x::r,m',h,h'=>by
  cases x with
  | row ty n cs =>
   simp only [nmM,kQ6] at h
   show (kI cs && nmM (r++m'))=true;rw [h.1,qC h.2 h'];rfl
  | box ty l =>
   simp only [nmM,kQ6] at h
   show (nmL l && nmM (r++m'))=true;rw [h.1,qC h.2 h'];rfl
  | mp=>exact qC (m:=r) h h'
  | pk=>exact qC (m:=r) h h'
  | dead=>exact qC (m:=r) h h'
theorem lC:∀ {m m':Mem},gC m=true→gC m'=true→gC (m++m')=true
 | [],_,_,h=>h
 | none::r,m',h,h'=>lC (m:=r) h h'
 | some x::r,m',h,h'=>by
  cases x with
  | mp=>simp [gC] at h
  | pk=>simp [gC] at h
  | row=>exact lC (m:=r) h h'
  | box=>exact lC (m:=r) h h'
  | dead=>exact lC (m:=r) h h'

theorem bJe{M':Mem}{W W':World}{C1:Cx}{row:Option Nat}(hn:yM M')(hq:nmM M'=true)(hF:∀ b,C.F b→b<w.heap.size)(h1:aU P C1 M' W)(h2:Fr C M w C1 M' W)(hg:W.grownBy W' row)
  (hr:∀ r,row=some r→w.heap.size≤r∧∃ o:Obj,W.heap[r]? = some o∧o.isCells=false):∃ C',C'.ι=C1.ι∧C'.κ=C1.κ∧aU P C' M' W'∧Fr C M w C' M' W':=by
 let C':Cx:=⟨C1.ι,C1.κ,fun b=>C1.F b∧(b<w.heap.size∨lW W b),[]⟩
 have hM:aU P C' M' W:=by
  refine ⟨fun i ty n cs hm => ?_,fun i ty cs hm => ?_,fun i es cl hm=>absurd hm (hn.1 _ _ _),h1.inj,fun i o b ho hl hb hf=>h1.nF i o b ho hl hb hf.1,fun b hb=>h1.Fs b hb.1,h1.lt⟩
  ·rcases h1.row _ _ _ _ hm with h4 | ⟨b,arr,inf,q0,q1,q2,q3,q4,q5,q6,q7,q8⟩
   ·exact .inl h4
   ·exact .inr ⟨b,arr,inf,q0,q1,q2,q3,q4,q5,q6,fun j hj=>(q7 j hj).shrink (fun b hb hs=>⟨hb,.inr hs⟩) (pW ((aCd hq).1 _ _ _ _ hm) j hj),q8⟩
  ·obtain ⟨b,arr,q0,q1,q2,q3,q4⟩:=h1.box _ _ _ hm
   exact ⟨b,arr,q0,q1,q2,fun j hj=>(q3 j hj).shrink (fun b hb hs=>⟨hb,.inr hs⟩) (uD ((aCd hq).2 _ _ _ hm) j hj),q4⟩
 have f:Fr C M w C' M' W:=⟨h2.os,h2.tape,h2.out,h2.size,h2.keep,h2.ids,h2.row,h2.liv,h2.new,fun b hb=>⟨h2.F1 b hb,.inl (hF b hb)⟩,fun b hb=>h2.F2 b hb.1⟩
 have hS:∀ b,C'.F b→b<w.heap.size∨lW W b:=fun b hb=>hb.2
 have hsame:∀ b,b<W.heap.size→(b<w.heap.size∨lW W b)→W'.heap[b]? = W.heap[b]? := fun b hb hd=>hg.block b hb (fun e=>by
  obtain ⟨q1,o,q2,q3⟩:=hr b e.symm
  rcases hd with hd | hd
  ·omega
  ·exact jV q2 q3 hd)
 have hFz:∀ b,C'.F b→W'.heap[b]? = W.heap[b]? := fun b hb=>hsame b (hM.Fs b hb) (hS b hb)
 have hL:Le C' C' M' M' W W':=⟨fun _ o h=>⟨o,h⟩,fun _ _ _ _ _ cs h=>⟨cs,h⟩,fun _ o h o' h' hl=>by rw [h] at h';cases h';exact ⟨hl,rfl,rfl⟩,fun _ h=>h,hFz⟩
 refine ⟨C',rfl,rfl,⟨fun i ty n cs hm => ?_,fun i ty cs hm => ?_,fun i es cl hm=>absurd hm (hn.1 _ _ _),hM.inj,hM.nF,fun b hb=>kQ8 (hM.Fs b hb) hg.size,fun i o b ho hl hb=>kQ8 (hM.lt i o b ho hl hb) hg.size⟩,
  ⟨hg.os.trans f.os,hg.tape.trans f.tape,hg.output.trans f.out,gO f.size hg.size,fun b hb hno=>(hsame b (kQ8 hb f.size) (.inl hb)).trans (f.keep b hb hno),f.ids,f.row,f.liv,f.new,f.F1,f.F2⟩⟩
 ·rcases hM.row _ _ _ _ hm with h4 | ⟨b,arr,inf,q0,q1,q2,q3,q4,q5,q6,q7,q8⟩
  ·exact .inl h4
  ·exact .inr ⟨b,arr,inf,q0,(hsame b (kQ9.1 q1).1 (.inr (fN q1))).trans q1,q2,q3,q4,q5,q6,fun j hj=>(q7 j hj).mono hL.F hL.fz,q8⟩
 ·obtain ⟨b,arr,q0,q1,q2,q3,q4⟩:=hM.box _ _ _ hm
  exact ⟨b,arr,q0,(hsame b (kQ9.1 q1).1 (.inr (fN q1))).trans q1,q2,fun j hj=>(q3 j hj).mono hL,q4⟩
theorem aRo{C1 C':Cx}{M':Mem}{W W':World}{i:Nat}{u:Value}(h:Rep C1 M' W (.own i) u)(e1:C'.ι=C1.ι)(e2:C'.κ=C1.κ):Rep C' M' W' (.own i) u:=by
 cases h with
 | own _ _ q0 qa q=>exact .own _ _ q0 qa fun ty n cs hm=>by rw [e1,e2];exact q ty n cs hm

def bQa(P:Program)(g:AV)(gf N:Nat)(xs:Lqq):Prop:=∀ (C:Cx) (M:Mem) (w:World) (u:Value),Rep C M w g u→(∀ b,C.F b→b<w.heap.size) →
 ∃ lb,u = .func (.func gf) #[] lb∧aFx Fence.wide 2 P gf lb (fun x:List Int × Value => #[x.2]) (bJc P) (KpG C.F) (fun ys=>ys.map (·.1)=xs) (fun ys=>ys.map (·.1) <+: xs) N w

def rfO(st:St)(p1 d:Nat)(l:List Int):St:=⟨put (put st.t (some p1) (.own st.m.length)) (some d) (.own st.m.length),st.m++[some (mI l)]⟩

section
variable {k kb gi gf p1 d id ty:Nat} {pos:String} {body:Code} {g:AV} {N:Nat} {xs:Lqq}
theorem aFw(st0:St)(S:Lqq→St)(E ER:Lqq→List Int→St)(T:List AV)(MR:Mem)(p:Lqq→List Int→Bool){cc:Code}(hcc:cc = .rangeFunc (.tmp gi) #[p1] (.region id #[{ dst:=some d,op := .assign (.tmp p1),type:=ty,pos:=pos,after := #[],guard:=none }] false) body)
  (hT0:st0.t=T) (hT:∀ pre,(S pre).t=T) (hg:T[gi]? = some g) (hit:bQa P g gf N xs) (eg:∀ args w,(callFunc gf args).run P w = .ok (.enter gf args) w)
  (hmp:∀ pre,gC (S pre).m=true) (hq:∀ pre,nmM (S pre).m=true) (hmE:∀ pre l,gC (E pre l).m=true) (hmER:∀ pre l,gC (ER pre l).m=true) (hmR:gC MR=true) (hqR:nmM MR=true) (hlen:∀ pre,(S pre).m.length<kb) (hnrf:nrf body=true)
  (hp:∀ (x:AV),(put T (some p1) x)[p1]? = some x) {kk:Nat} {g0 g1 gR:Gh} (hkk:st0.m.length≤kk) (h0m:gC st0.m=true) (hg0:gh kk g0 st0=some (S [])) (hgh:∀ pre l,gh kk g1 (E pre l)=some ⟨(E pre l).t,(S (pre++[l])).m⟩) (hgR:∀ pre l,p pre l=true→gh kk gR (ER pre l)=some ⟨(ER pre l).t,MR⟩)
  (hbody:∀ pre l,pre.length<N→l.length≤1000→(p pre l=false→aC P kb body (rfO (S pre) p1 d l) .normal (E pre l))∧(p pre l=true→aC P kb body (rfO (S pre) p1 d l) .ret (ER pre l))) :
  ((∀ pre l,pre++[l] <+: xs→p pre l=false)→aC P k cc st0 .normal (S xs)) ∧
  ((∃ pre l,pre++[l] <+: xs∧p pre l=true)→aC P k cc st0 .ret ⟨T,MR⟩):=by
 have hmp':∀ pre,yM (S pre).m:=fun pre=>eP (hmp pre)
 have hmR':yM MR:=eP hmR;have main:∀ (Qf:Ex→St→Prop),((∀ pre l,pre++[l] <+: xs→p pre l=false)→Qf .normal (S xs))→((∃ pre l,pre++[l] <+: xs∧p pre l=true)→Qf .ret ⟨T,MR⟩) →
   ∀ (C0:Cx) (M0:Mem) (w0:World) (a:Act) (w:World),M0.length≤k→Sim P C0 M0 w0 st0 a w→∀ (ro:Option Nat),lN ro cc→∀ (n:Nat),cc.wpIn (Fen ro) n P (fun e' a' w'=>∃ e st',Qf e st'∧e'=e.toExit∧Sim P C0 M0 w0 st' a' w') a w:=by
  intro Qf hQ1 hQ2 C0 M0 w0 a w hk hs ro hro n;subst hcc;have hro':ro=none:=hro.resolve_right (by simp [nrf])
  subst hro';refine aCe (n:=3) ?_;obtain ⟨C,hSl,hM,hF,hD⟩:=hs;have hini:bAe P C st0.m w (S []).m w:=by
   obtain ⟨C1,_,h1,h2,_⟩:=eY hkk hg0 (show Sim P (C.with []) st0.m w st0 { a with defers:=[] } w from ⟨C,hSl,hM,(Fr.refl _ _ _).based [],.nil rfl (eP h0m).2⟩)
   exact ⟨C1,h1,h2.unbased⟩
  rw [hT0] at hSl
  obtain ⟨lb,hu,hseq⟩:=hit C st0.m w _ (hSl.at hg) hM.Fs
  have actOf:∀ x:List Int × Value,Act:=fun x=>({ tmps:=a.tmps.setIfInBounds p1 x.2,defers:=[] }:Act).put (some d) (({ tmps:=a.tmps.setIfInBounds p1 x.2,defers:=[] }:Act).eval (.tmp p1))
  refine sW (F:=Fen none) (n:=3) rfl (by omega) (gf:=gf) (lb:=lb) hu trivial eg hseq (fun h k=>h.trans k)
   (fun W l o o' hl h1 h2 h3=>⟨by simp,fun b hb=>(grownBy_putObj' W l o').block b (kQ8 (hM.Fs b hb) (gO hl (Nat.le_of_lt (kQ9.1 h1).1))) (fun e=>by cases e;have:=hM.Fs _ hb;omega)⟩)
   (Below.refl _ _) (fun _=>rfl)
   (fun pre W=>bAe P C st0.m w (S (pre.map (·.1))).m W∧∀ q l,q++[l] <+: pre.map (·.1)→p q l=false)
   (fun c pre W=>c = .ret∧bAe P C st0.m w MR W∧∃ q l,q++[l]=pre.map (·.1)∧p q l=true)
   (fun pre X Y row hs hg hr=>⟨hs.1.own (hmp' _) (hq _) hM.Fs hg hr,hs.2⟩) (fun c pre X Y row hs hg hr=>⟨hs.1,hs.2.1.own hmR' hqR hM.Fs hg hr,hs.2.2⟩)
   ⟨hini,fun q l h=>by simp at h⟩
   (fun pre x V a' W=>a'=({ tmps:=a.tmps.setIfInBounds p1 x.2,defers:=[] }:Act).put (some d) (({ tmps:=a.tmps.setIfInBounds p1 x.2,defers:=[] }:Act).eval (.tmp p1)) ∧
    (∃ C2,aU P C2 ((S (pre.map (·.1))).m++[some (mI x.1)]) W∧Fr C st0.m w C2 ((S (pre.map (·.1))).m++[some (mI x.1)]) W∧Rep C2 ((S (pre.map (·.1))).m++[some (mI x.1)]) W (.own (S (pre.map (·.1))).m.length) x.2) ∧
    KpG C.F V W∧x.1.length≤1000∧∀ q l,q++[l] <+: pre.map (·.1)→p q l=false)
   (fun pre x V a' s X Y row hs hg hr=>by
    obtain ⟨e1,⟨C2,q1,q2,q3⟩,e3,e4,e5⟩:=hs;have hnr:nmM [some (mI x.1)]=true:=by
     show (kI (x.1.map aA) && nmM [])=true;rw [aCc aA (fun _=>rfl)];rfl
    obtain ⟨C',i1,i2,i3,i4⟩:=bJe (eP (lC (hmp _) (by rfl))) (qC (hq _) hnr) hM.Fs q1 q2 hg hr
    refine ⟨e1,⟨C',i3,i4,aRo q3 i1 i2⟩,⟨gO e3.size hg.size,fun b hb => ?_⟩,e4,e5⟩
    refine (hg.block b (kQ8 (hM.Fs b hb) q2.size) (fun e => ?_)).trans (e3.same b hb)
    have:=(hr b e.symm).1;have:=hM.Fs b hb;omega)
   ?assign ?body ?done ?stop
  case assign =>
   intro l pre x V W K hI hg' hR hK;obtain ⟨⟨C',hM',hF'⟩,hpre⟩:=hI;obtain ⟨C2,j1,j2,j3⟩:=bJd hM' hg' hR;have hz:(#[p1].zip #[x.2]).foldl (fun t (y:Nat × Value)=>t.setIfInBounds y.1 y.2) a.tmps=a.tmps.setIfInBounds p1 x.2:=by simp
   rw [hz];refine wpIn_region_lit (wpListIn_plain rfl fun K' hK' => ?_)
   unfold Oper.wpIn;refine ⟨fun f _=>trivial,?_⟩
   rw [Oper.semAt_plain _ _ _ (by intro c hc';cases hc')]
   simp only [execOp,Sem.run_pure];exact hK' _ _ (wpListIn_nil (hK _ _ (KeepsFrom.refl _ _) ⟨rfl,⟨C2,j1,hF'.trans j2,j3⟩,⟨hg'.size,fun b hb=>pA hg' b (kQ8 (hM.Fs b hb) hF'.size)⟩,hR.1,hpre⟩))
  case body =>
   rintro l pre x a' V W hl _ ⟨rfl,⟨C2,hM2,hF2,hr2⟩,hK2,hxl,hpre⟩ hlt;have hpl:(pre.map (·.1)).length<N:=by simpa using hlt
   have hSW:eT C2 ((S (pre.map (·.1))).m++[some (mI x.1)]) W T a.tmps:=hSl.le (hM.le hF2)
   have s1:eT C2 ((S (pre.map (·.1))).m++[some (mI x.1)]) W (put T (some p1) (.own (S (pre.map (·.1))).m.length)) (({ tmps:=a.tmps,defers:=[] }:Act).put (some p1) x.2).tmps :=
    eT.put (a:={ tmps:=a.tmps,defers:=[] }) hSW hr2
   have s2:eT C2 ((S (pre.map (·.1))).m++[some (mI x.1)]) W (put (put T (some p1) (.own (S (pre.map (·.1))).m.length)) (some d) (.own (S (pre.map (·.1))).m.length)) (({ tmps:=a.tmps.setIfInBounds p1 x.2,defers:=[] }:Act).put (some d) (({ tmps:=a.tmps.setIfInBounds p1 x.2,defers:=[] }:Act).eval (.tmp p1))).tmps :=
    eT.put s1 (s1.at (hp _))
   have hnr:gC ((S (pre.map (·.1))).m++[some (mI x.1)])=true:=lC (hmp _) (by rfl)
   have hsim:Sim P (C2.with []) ((S (pre.map (·.1))).m++[some (mI x.1)]) W (rfO (S (pre.map (·.1))) p1 d x.1) (({ tmps:=a.tmps.setIfInBounds p1 x.2,defers:=[] }:Act).put (some d) (({ tmps:=a.tmps.setIfInBounds p1 x.2,defers:=[] }:Act).eval (.tmp p1))) W:=by
    refine ⟨C2,?_,hM2,(Fr.refl _ _ _).based [],.nil rfl (eP hnr).2⟩;unfold rfO;rw [hT];exact s2
   have hkl:((S (pre.map (·.1))).m++[some (mI x.1)]).length≤kb:=by
    rw [oS];exact hlen _
   have keepO:∀ {M2:Mem} {W2:World} {C3:Cx},Fr C2 ((S (pre.map (·.1))).m++[some (mI x.1)]) W C3 M2 W2→KeepsFrom w.heap.size W W2∧KpG C.F V W2:=fun f3 =>
    ⟨⟨f3.size,fun b o _ hb ho=>(f3.keep b (kQ9.1 hb).1 (aHr hM2 (eP hnr) hb ho)).trans hb⟩,
     hK2.trans ⟨f3.size,fun b hb=>f3.keep b (kQ8 (hM.Fs b hb) hF2.size) (fun id o ho hl he=>hM2.nF id o b ho hl he (hF2.F1 b hb))⟩⟩
   have hmapp:(pre++[x]).map (·.1)=pre.map (·.1)++[x.1]:=by simp
   cases hpx:p (pre.map (·.1)) x.1 with
   | false =>
    refine wpIn_mono ((hbody _ x.1 hpl hxl).1 hpx (C2.with []) _ W _ W hkl hsim (some l) (.inr hnrf) 1) ?_
    rintro e a2 W2 ⟨rfl,C3,hS3,hM3,hF3,_⟩;have hF3:=hF3.unbased;obtain ⟨k1,k2⟩:=keepO hF3;have hsim3:Sim P (C.with []) st0.m w (E (pre.map (·.1)) x.1) { a2 with defers:=[] } W2 :=
     ⟨C3,hS3,hM3,(hF2.trans hF3).based [],.nil rfl (eP (hmE _ _)).2⟩
    obtain ⟨C4,_,hM4,hF4,_⟩:=eY hkk (hgh _ _) hsim3;refine ⟨k1,k2,⟨C4,?_,?_⟩,fun q l h => ?_⟩
    ·rw [hmapp];exact hM4
    ·rw [hmapp];exact hF4.unbased
    ·rw [hmapp] at h
     rcases List.prefix_concat_iff.1 h with h | h
     ·obtain ⟨e1,e2⟩:=List.append_inj' h rfl
      cases e2;rw [e1];exact hpx
     ·exact hpre q l h
   | true =>
    have hc:=(hbody _ x.1 hpl hxl).2 hpx;refine wpIn_mono (hc (C2.with []) _ W _ W hkl hsim (some l) (.inr hnrf) 1) ?_
    rintro e a2 W2 ⟨rfl,C3,hS3,hM3,hF3,_⟩;have hF3:=hF3.unbased;obtain ⟨k1,k2⟩:=keepO hF3;have hsim3:Sim P (C.with []) st0.m w (ER (pre.map (·.1)) x.1) { a2 with defers:=[] } W2 :=
     ⟨C3,hS3,hM3,(hF2.trans hF3).based [],.nil rfl (eP (hmER _ _)).2⟩
    obtain ⟨C4,_,hM4,hF4,_⟩:=eY hkk (hgR _ _ hpx) hsim3;exact ⟨k1,rfl,⟨C4,hM4,hF4.unbased⟩,_,_,hmapp.symm,hpx⟩
  case done =>
   intro D ys W hD' hSx hI hDm;obtain ⟨⟨C1,h1,h2⟩,hpre⟩:=hI;rw [hSx] at h1 h2 hpre
   refine ⟨.normal,S xs,hQ1 hpre,rfl,?_⟩;have hnm:yM (S xs).m:=hmp' xs;obtain ⟨C',hM',f,hSo⟩:=uE hnm (hq xs) hM.Fs h1 h2;refine ⟨C',by rw [hT];exact hSl.le (hM.le f),hM',hF.trans f,?_⟩
   obtain ⟨⟨l,e1,e2,e3⟩,hR⟩:=hD.fr hM (fun i to ti sz L h=>by have:=hnm.2 _ _ h;cases this) f
   obtain ⟨⟨l',e1',_,e3'⟩,_⟩:=hD;have hll:l=l':=by
    have:=e1.symm.trans e1';exact (List.map_inj_right (fun x y h=>by simpa [mark] using h)).1 this
   refine ⟨⟨D::l,by rw [e1];rfl,List.nodup_cons.2 ⟨fun hin => ?_,e2⟩,fun D' hD2 => ?_⟩,hR⟩
   ·rw [hll] at hin
    have:=(kQ9.1 (e3' D hin).1).1;omega
   ·rcases kM.1 hD2 with rfl | hin
    ·refine ⟨hDm,gO hF.size hD',fun hf => ?_⟩
     rcases hSo _ hf with h | h
     ·omega
     ·exact jV hDm rfl h
    ·exact e3 D' hin
  case stop =>
   rintro D c pre W hD' hSp ⟨rfl,⟨C1,h1,h2⟩,q,l0,hql,hpq⟩ hDm;refine wpIn_ret ?_;refine ⟨.ret,⟨T,MR⟩,hQ2 ⟨q,l0,by rw [hql];exact hSp,hpq⟩,rfl,?_⟩
   obtain ⟨C',hM',f,hSo⟩:=uE hmR' hqR hM.Fs h1 h2;refine ⟨C',hSl.le (hM.le f),hM',hF.trans f,?_⟩;obtain ⟨⟨l,e1,e2,e3⟩,hR⟩:=hD.fr hM (fun i to ti sz L h=>by have:=hmR'.2 _ _ h;cases this) f
   obtain ⟨⟨l',e1',_,e3'⟩,_⟩:=hD;have hll:l=l':=by
    have:=e1.symm.trans e1';exact (List.map_inj_right (fun x y h=>by simpa [mark] using h)).1 this
   refine ⟨⟨D::l,by rw [e1];rfl,List.nodup_cons.2 ⟨fun hin => ?_,e2⟩,fun D' hD2 => ?_⟩,hR⟩
   ·rw [hll] at hin
    have:=(kQ9.1 (e3' D hin).1).1;omega
   ·rcases kM.1 hD2 with rfl | hin
    ·refine ⟨hDm,gO hF.size hD',fun hf => ?_⟩
     rcases hSo _ hf with h | h
     ·omega
     ·exact jV hDm rfl h
    ·exact e3 D' hin
 refine ⟨fun hall => ?_,fun hex => ?_⟩
 ·intro C0 M0 w0 a w hk hs ro hro n
  refine wpIn_mono (main (fun e st'=>e = .normal∧st'=S xs) (fun _=>⟨rfl,rfl⟩) (fun ⟨q,l,h1,h2⟩=>by rw [hall q l h1] at h2;cases h2) C0 M0 w0 a w hk hs ro hro n) ?_
  rintro e' a' w' ⟨e,st',⟨rfl,rfl⟩,h1,h2⟩;exact ⟨h1,h2⟩
 ·intro C0 M0 w0 a w hk hs ro hro n
  refine wpIn_mono (main (fun e st'=>e = .ret∧st'=⟨T,MR⟩) (fun hall=>by obtain ⟨q,l,h1,h2⟩:=hex;rw [hall q l h1] at h2;cases h2) (fun _=>⟨rfl,rfl⟩) C0 M0 w0 a w hk hs ro hro n) ?_
  rintro e' a' w' ⟨e,st',⟨rfl,rfl⟩,h1,h2⟩;exact ⟨h1,h2⟩
end
end KV
end Go.Proofs
end
section
namespace Go.Proofs
open Go.RowKit
namespace KV
variable {P:Program} {T:TT} {E:Env} {C C0:Cx} {M M0:Mem} {w w0:World}
def cAl(P:Program)(ops:Array Oper)(o:Oper)(st st':St):Prop:=∀ (C0:Cx) (M0:Mem) (w0:World) (a:Act) (w:World),Sim P C0 M0 w0 st a w→∀ (ro:Option Nat) (n:Nat) (K:Act→World→Prop) (Q:Exit→Act→World→Prop),
 (∀ a' w',(∃ v,a'=a.put o.dst v)→Sim P C0 M0 w0 st' a' w'→K a' w')→if Region.wanted o (yielded ops a.tmps) then o.wpIn (Fen ro) n P a w K Q else (∀ f,o.about P w a.eval=some f→(Fen ro).fn f)∧K (a.put o.dst undef) w
theorem bDy(hT:∀ t i,T t=some i→cW P t=some i)(hE:lS P E){ops:List Oper}{o:Oper}{id:Nat}{st st':St}{s s':AS}(h:pD P T E ops o id st s=some (st',s'))(g:bK s'):cAl P ops.toArray o st st':=by
 intro C0 M0 w0 a w hsim ro n K Q hK;obtain ⟨C,hS,hM,hF,hD⟩:=hsim;unfold pD at h
 obtain ⟨go,s1,h1,k1⟩:=aD h;cases go with
 | true =>
  obtain ⟨vs,s2,h2,k2⟩:=aD k1;obtain ⟨e2,rfl⟩:=aH h2;obtain ⟨⟨x,L⟩,s3,h3,k3⟩:=aD k2;obtain ⟨rfl,rfl⟩:=aJ k3;have gd:=pC.good h3 g;rw [nK hS h1 gd,if_pos rfl];refine ⟨fun f _=>trivial,?_⟩
  rw [Oper.semAt_eq _ _ _ (xY h3)]
  rcases sD h3 with ⟨q,_,_,h4⟩ | ⟨h4,hno⟩
  ·obtain ⟨_,hup⟩:=xZ hT hE hS hM hF hD (qV hS _ _ e2) h4 g
   revert hup;generalize (execOp a.eval o).run P w=r;intro hup;cases r with
   | halt x w'=>exact hup.elim
   | ok nx w' =>
    cases nx with
    | value u=>exact hK _ _ ⟨_,rfl⟩ hup
    | skip=>exact hK _ _ ⟨_,rfl⟩ (hup _)
    | enter f us =>
     obtain ⟨rfl,hc⟩:=hup;refine ⟨fun h=>by simp [Fen,Fence.wide] at h,(sC (hc (n-1))).mono ?_⟩
     rintro e w'' ⟨u,rfl,hs⟩;exact hK _ _ ⟨_,rfl⟩ hs
    | _=>exact hup.elim
  ·obtain ⟨_,hup⟩:=aAv hT hE hM (qV hS _ _ e2) h4 g
   have hk:kS st.m (upds st.m L):=qU hno;revert hup;generalize (execOp a.eval o).run P w=r;intro hup;cases r with
   | halt x w'=>exact hup.elim
   | ok nx w' =>
    cases nx with
    | value u =>
     obtain ⟨C',f,m,r⟩:=hup;exact hK _ _ ⟨_,rfl⟩ (nL hS hM hF hD f hk m r)
    | skip =>
     obtain ⟨rfl,C',f,m⟩:=hup;exact hK _ _ ⟨_,rfl⟩ (nL hS hM hF hD f hk m (.any _))
    | enter f us =>
     obtain ⟨rfl,hc⟩:=hup;refine ⟨fun h=>by simp [Fen,Fence.wide] at h,(sC (hc (n-1))).mono ?_⟩
     rintro e w'' ⟨u,rfl,C',f,m,r⟩;exact hK _ _ ⟨_,rfl⟩ (nL hS hM hF hD f hk m r)
    | _=>exact hup.elim
 | false =>
  obtain ⟨rfl,rfl⟩:=aJ k1;rw [nK hS h1 g];simp only [Bool.false_eq_true,if_false];exact ⟨fun f _=>trivial,hK _ _ ⟨_,rfl⟩ (nL hS hM hF hD (Fr.refl ..) .refl hM (.tup [] #[] rfl (fun i h=>by simp at h)))⟩
theorem oZ{a:Act}{d:Option Nat}{v:Value}{i:Nat}(h:d≠some i):(a.put d v).tmps.getD i undef=a.tmps.getD i undef:=by
 cases d with
 | none=>rfl
 | some j =>
  have hne:j≠i:=fun e=>h (by rw [e])
  show (a.tmps.setIfInBounds j v).getD i undef=_;simp [kQ2,Array.getElem?_setIfInBounds_ne hne]
theorem aFv(hT:∀ t i,T t=some i→cW P t=some i)(hE:lS P E){ops:List Oper}:∀ (l:List Oper) (k:Nat) {st st':St} {s s':AS},(∀ j,l[j]? = ops[k+j]?)→aWa P T E ops l st s=some (st',s')→bK s' →
  ∀ (C0:Cx) (M0:Mem) (w0:World) (a:Act) (w:World),Sim P C0 M0 w0 st a w→∀ (ro:Option Nat) (n:Nat) (Q:Exit→Act→World→Prop),(∀ a' w',((∀ i,(∀ o∈l,o.dst≠some i)→a'.tmps.getD i undef=a.tmps.getD i undef)∧a'.defers=a.defers)→Sim P C0 M0 w0 st' a' w'→Q .normal a' w')→wpOpsIn (Fen ro) n P ops.toArray Q ((List.range l.length).map (k + ·)) a w
 | [],k,st,st',s,s',_,h,g,C0,M0,w0,a,w,hs,ro,n,Q,hQ=>by
  obtain ⟨rfl,rfl⟩:=aJ h;exact hQ _ _ ⟨fun _ _=>rfl,rfl⟩ hs
 | o::l,k,st,st',s,s',hl,h,g,C0,M0,w0,a,w,hs,ro,n,Q,hQ=>by
  obtain ⟨st1,s1,h1,k1⟩:=aD h;have h0:ops[k]? = some o:=by simpa using (hl 0).symm
  have ih:=fun a1 w1=>aFv hT hE l (k+1) (fun j=>by have:=hl (j+1);simpa [Nat.add_assoc,Nat.add_comm 1 j] using this) k1 g C0 M0 w0 a1 w1
  have hst:=bDy hT hE h1 (sE.good k1 g) C0 M0 w0 a w hs ro n (wpOpsIn (Fen ro) n P ops.toArray Q ((List.range l.length).map (k+1 + ·))) Q (fun a1 w1 hv hs1=>ih a1 w1 hs1 ro n Q fun a' w' hk hs'=>hQ a' w' ⟨fun i hi=>by
   obtain ⟨v,rfl⟩:=hv;rw [hk.1 i fun o' ho'=>hi o' (kQ7 _ ho'),oZ (hi o (mC ..))],by
   obtain ⟨v,rfl⟩:=hv;rw [hk.2];cases o.dst <;> rfl⟩ hs')
  rw [vK,List.range_succ_eq_map,iM,tZ];have hm:(List.range l.length).map ((k + ·) ∘ Nat.succ)=(List.range l.length).map (k+1 + ·):=by
   apply aHe;intro x _;simp only [Function.comp];omega
  rw [hm,Nat.add_zero,wpOpsIn_cons];unfold wpOpIn;simp only [List.getElem?_toArray,h0];exact hst
def wrR(c:Code)(i:Nat):Bool:=match c with
 | .region _ ops _=>ops.toList.any fun o=>match o.dst with
  | some j=>Nat.beq j i
  | none=>false
 | _=>true
def eR(P:Program)(k:Nat)(c:Code)(st:St)(e:Ex)(st':St):Prop:=∀ (C0:Cx) (M0:Mem) (w0:World) (a:Act) (w:World),M0.length≤k→Sim P C0 M0 w0 st a w→∀ (ro:Option Nat) (n:Nat),c.wpIn (Fen ro) n P (fun e' a' w'=>e'=e.toExit∧Sim P C0 M0 w0 st' a' w'∧(∀ i,wrR c i=false→a'.tmps.getD i undef=a.tmps.getD i undef)∧a'.defers=a.defers) a w
noncomputable def bPz(c:Code)(st:St):Ask (Ex × St):=match c with
 | .region _ ops false=>do
  let st' ← aWa Tp tT EO ops.toList ops.toList st
  pure (.normal,st')
 | _=>fail
theorem eR.fin{k:Nat}{c:Code}{st st':St}{e:Ex}{g:Gh}{o:List OI}{l:List Prop}(h:aKt k g (bPz c st (asg o))=some (e,st',l,[]))(gd:bK (out l)):eR Tp k c st e st':=by
 unfold aKt at h
 split at h
 ·rename_i e1 st1 s hr
  split at h
  ·rename_i st2 hg
   simp only [Option.some.injEq,Prod.mk.injEq] at h
   obtain ⟨rfl,rfl,rfl,hs⟩:=h;unfold bPz at hr
   split at hr
   ·rename_i id ops
    obtain ⟨st3,s1,h1,k1⟩:=aD hr;obtain ⟨he,rfl⟩:=aJ k1;cases he;intro C0 M0 w0 a w hk hsm ro n;refine wpIn_region ?_;have:=aFv aEx aEw ops.toList 0 (fun j=>by simp) h1 (fun p hp=>gd p hp) C0 M0 w0 a w hsm ro n (fun e' a' w'=>e'=Ex.normal.toExit∧Sim Tp C0 M0 w0 st2 a' w'∧(∀ i,wrR (.region id ops false) i=false→a'.tmps.getD i undef=a.tmps.getD i undef)∧a'.defers=a.defers) (fun a' w' hkp h'=>⟨rfl,eY hk hg h',fun i hi=>hkp.1 i fun o ho e=>by
     unfold wrR at hi
     have:=List.any_eq_false.1 hi o ho;rw [e] at this
     exact this (Nat.beq_refl i),hkp.2⟩)
    simpa using this
   ·cases hr
  ·cases h
 ·cases h
end KV
end Go.Proofs
end
namespace Go.Proofs
namespace KV
section
section
variable {α:Type}

def mv(A:List α)(x:α)(j:Nat)(R:List α):List α:=A.take j++x::(A.drop j++R)

theorem xO(A:List α)(x:α)(j:Nat)(R:List α)(hj:j≤A.length):(mv A x j R).length=A.length+1+R.length:=by
 unfold mv;simp;omega

theorem aIu(A:List α)(x:α)(j:Nat)(R:List α)(hj:j≤A.length)(t:Nat) :
  (mv A x j R)[t]? = if t<j then A[t]? else if t=j then some x else if t≤A.length then A[t-1]? else R[t-A.length-1]? := by
 unfold mv
 by_cases h1:t<j
 ·rw [if_pos h1,aBk (by simp;omega),bKl h1]
 ·rw [if_neg h1,wR (by simp;omega)]
  have hl:(A.take j).length=j:=by simp;omega
  rw [hl]
  by_cases h2:t=j
  ·rw [if_pos h2,show t-j=0 by omega];rfl
  ·rw [if_neg h2,show t-j=(t-j-1)+1 by omega,List.getElem?_cons_succ]
   by_cases h3:t≤A.length
   ·rw [if_pos h3,aBk (by simp;omega),List.getElem?_drop]
    congr 1;omega
   ·rw [if_neg h3,wR (by simp;omega)]
    congr 1
    simp;omega

theorem bPb(A:List α)(x:α)(j:Nat)(R:List α)(hj:j≤A.length)(h0:0<j)(y:α)(hy:A[j-1]? = some y) :
  ((mv A x j R).set j y).set (j-1) x=mv A x (j-1) R:=by
 have hl:=xO A x j R hj;apply List.ext_getElem?;intro t;rw [List.getElem?_set,List.getElem?_set,aIu A x (j-1) R (by omega),aIu A x j R hj]
 simp only [oT,hl]
 by_cases h1:j-1=t
 ·subst h1
  rw [if_pos rfl,if_pos (by omega),if_neg (by omega),if_pos rfl]
 ·rw [if_neg h1]
  by_cases h2:j=t
  ·subst h2
   rw [if_pos rfl,if_pos (by omega),if_neg (by omega),if_neg (by omega),if_pos (by omega),hy]
  ·rw [if_neg h2]
   by_cases h3:t<j
   ·rw [if_pos h3,if_pos (by omega)]
   ·rw [if_neg h3,if_neg (by omega:¬ t=j),if_neg (by omega:¬ t<j-1),if_neg (by omega:¬ t=j-1)]

def oF(lt:α→α→Bool)(x:α)(A:List α):Nat:=(A.reverse.dropWhile (lt x)).length
def ins(lt:α→α→Bool)(A:List α)(x:α):List α:=A.take (oF lt x A)++x::A.drop (oF lt x A)
def isort(lt:α→α→Bool)(l:List α):List α:=l.foldl (ins lt) []

theorem lM{p:α→Bool}:∀ (l r:List α),(∀ x∈l,p x=true)→(l++r).dropWhile p=r.dropWhile p
 | [],_,_=>rfl
 | x::l,r,h=>by
  rw [List.cons_append,List.dropWhile_cons,if_pos (h x (by simp))]
  exact lM l r (fun y hy=>h y (by simp [hy]))

theorem aGa(lt:α→α→Bool)(x:α)(A:List α)(j:Nat)(hj:j≤A.length)(h:∀ t (_:t<A.length),j≤t→lt x A[t]=true)
  (h2:j=0∨∃ y,A[j-1]? = some y∧lt x y=false):oF lt x A=j:=by
 unfold oF;have e:A.reverse=(A.drop j).reverse++(A.take j).reverse:=by rw [← List.reverse_append,aOj]
 rw [e,lM]
 ·rcases h2 with h0 | ⟨y,hy,hlt⟩
  ·subst h0;simp
  ·by_cases h0:j=0
   ·subst h0;simp
   ·have e2:A.take j=A.take (j-1)++[y]:=by
     rw [show j=(j-1)+1 by omega,List.take_add_one,Nat.add_sub_cancel,hy];rfl
    have hl:(A.take (j-1)).length=j-1:=by simp;omega
    rw [e2,List.reverse_append];show ((y::(A.take (j-1)).reverse).dropWhile (lt x)).length=j;rw [List.dropWhile_cons,hlt];simp;omega
 ·intro z hz
  rw [aBn] at hz
  obtain ⟨t,ht,rfl⟩:=List.getElem_of_mem hz;rw [List.getElem_drop];exact h (j+t) (by simp at ht;omega) (by omega)

theorem aRy(lt:α→α→Bool)(A:List α)(x:α):(ins lt A x).length=A.length+1:=by
 unfold ins;simp;have:oF lt x A≤A.length:=by
  unfold oF;have h2:((A.reverse).dropWhile (lt x)).length≤A.reverse.length:=(List.dropWhile_sublist _).length_le;simpa using h2
 omega

theorem bYv(A:List α)(x:α)(R:List α):mv A x A.length R=A++x::R:=by unfold mv;simp
theorem bJh(lt:α→α→Bool)(A:List α)(x:α)(R:List α):mv A x (oF lt x A) R=ins lt A x++R:=by unfold mv ins;simp

theorem wC(lt:α→α→Bool)(l:List α):(isort lt l).length=l.length:=by
 unfold isort;have:∀ (l A:List α),(l.foldl (ins lt) A).length=A.length+l.length:=by
  intro l
  induction l with
  | nil=>intro A;simp
  | cons x r ih=>intro A;rw [yZ,ih,aRy];simp;omega
 rw [this];simp

theorem aRz(lt:α→α→Bool)(l:List α)(k:Nat)(h:k<l.length):isort lt (l.take (k+1))=ins lt (isort lt (l.take k)) l[k]:=by
 unfold isort;rw [List.take_succ_eq_append_getElem h,aHg];rfl
end
theorem len3{x:List Int}(h:x.length=3):∃ a b c,x=[a,b,c]:=by
 match x,h with
 | [a,b,c],_=>exact ⟨a,b,c,rfl⟩
theorem aGb{α:Type}(lt:α→α→Bool)(l:List α)(y:α):y∈isort lt l↔y∈l:=by
 unfold isort;have : ∀ (l A:List α),y∈l.foldl (ins lt) A↔y∈A∨y∈l:=by
  intro l
  induction l with
  | nil=>intro A;simp
  | cons x r ih =>
   intro A;rw [yZ,ih];have:y∈ins lt A x↔y∈A∨y=x:=by
    unfold ins;rw [nV,kM];constructor
    ·rintro (h | h | h)
     ·exact Or.inl (List.mem_of_mem_take h)
     ·exact Or.inr h
     ·exact Or.inl (List.mem_of_mem_drop h)
    ·rintro (h | h)
     ·rw [← aOj (oF lt x A) A,nV] at h
      rcases h with h | h
      ·exact Or.inl h
      ·exact Or.inr (Or.inr h)
     ·exact Or.inr (Or.inl h)
   rw [this,kM];constructor
   ·rintro ((h | h) | h) <;> simp [h]
   ·rintro (h | h | h) <;> simp [h]
 rw [this];simp

section
variable {α:Type}
end
section
variable {α:Type}
end
end
section

noncomputable abbrev aFz:Code:=sub (cd Tryz.f216) [1,0,0,1,0,0,1,0,0]
noncomputable abbrev aMl:Code:=sub (cd Tryz.f216) [1,0,0]
theorem bYo{x:Int}{r0:Bool}(er0:r0=(x != x)){base:Nat}:FV Tp 168 [(pI x)] base (pB r0) []:=by
 subst er0;exact FV.fin Tryz.func168 rfl (o:=[]) (l:=[]) (by kernel_rfl) (gn)
theorem xN(x:Int){base:Nat}:FV Tp 168 [.p (aA x)] base (pB false) []:=bYo (by simp)
theorem bYp{x y:Int}(h0:x<y){base:Nat}:FV Tp 116 [(pI x),(pI y)] base (pI (-1:Int)) []:=by
 exact FV.fin Tryz.func116 rfl (o:=[.c (pB false) [],.c (pB false) [],bF,bF,bT]) (l:=[_,false=false,false=false,_,_]) (by kernel_rfl) (gc (aQ h0) (gc rfl (gc rfl (gc (fk 0 (xN y) rfl) (gc (fk 0 (xN x) rfl) gn)))))
theorem bYq{x y:Int}(h0:y≤x)(h1:y<x){base:Nat}:FV Tp 116 [(pI x),(pI y)] base (pI 1) []:=by
 exact FV.fin Tryz.func116 rfl (o:=[.c (pB false) [],.c (pB false) [],bF,bF,bF,bT]) (l:=[_,_,false=false,false=false,_,_]) (by kernel_rfl) (gc (aQ h1) (gc (aR h0) (gc rfl (gc rfl (gc (fk 0 (xN y) rfl) (gc (fk 0 (xN x) rfl) gn))))))
theorem bYr{x y:Int}(h0:y≤x)(h1:x≤y){base:Nat}:FV Tp 116 [(pI x),(pI y)] base (pI 0) []:=by
 exact FV.fin Tryz.func116 rfl (o:=[.c (pB false) [],.c (pB false) [],bF,bF,bF,bF]) (l:=[_,_,false=false,false=false,_,_]) (by kernel_rfl) (gc (aR h1) (gc (aR h0) (gc rfl (gc rfl (gc (fk 0 (xN y) rfl) (gc (fk 0 (xN x) rfl) gn))))))
def zD(x y:Int):Int:=if x<y then -1 else if y<x then 1 else 0
theorem bYs(x y:Int){base:Nat}:FV Tp 116 [.p (aA x),.p (aA y)] base (pI (zD x y)) []:=by
 unfold zD
 by_cases h1:x<y
 ·rw [if_pos h1];exact bYp h1
 ·rw [if_neg h1]
  by_cases h2:y<x
  ·rw [if_pos h2];exact bYq (by omega) h2
  ·rw [if_neg h2];exact bYr (by omega) (by omega)
def ltK(f:Nat)(x y:List Int):Bool:=decide (zD (x.getD f 0) (y.getD f 0)<0)
theorem aUi{a0 a1 a2 b0 b1 b2 r0:Int}(er0:r0=(zD a2 b2)){base:Nat}:FV Tp 152 [(.p (.agg [(aA a0),(aA a1),(aA a2)])),(.p (.agg [(aA b0),(aA b1),(aA b2)]))] base (pI r0) []:=by
 subst er0;exact FV.fin Tryz.func152 rfl (o:=[.c (pI (zD a2 b2)) []]) (l:=[_]) (by kernel_rfl) (gc (fk 2 (bYs a2 b2) rfl) gn)
def kL(l:Lqq)(i:Nat)(Ln:Nat)(Lc:List PV):St:=⟨fr 53 [(0,(.own 0)),(1,(pI 0)),(2,(pI (l.length:Int))),(3,(.fn 152 [] [])),(8,(pI (i:Int)))],[some (.row 48 Ln Lc)]⟩
theorem aUj{l:Lqq}{i'0:Nat}{L'1:Lqq}(hl0:aE Tp 1 aMl (kL l 1 l.length (l.flatten.map aA)) (.exit 0) (kL l i'0 L'1.length (L'1.flatten.map aA))):FMM Tp 216 [(.own 0),(pI 0),(pI (l.length:Int)),(.fn 152 [] [])] [some (.row 48 l.length (l.flatten.map aA))] (.tup []) [some (.row 48 L'1.length (L'1.flatten.map aA))]:=by
 exact FMM.fin (k:=1) (g:=⟨[],[],[],[]⟩) rfl Tryz.func216 rfl (o:=[.k 3 ⟨(rng [(4,4),(9,44)]),[],[],[]⟩ (.exit 0) (kL l i'0 L'1.length (L'1.flatten.map aA))]) (l:=[_,inR (1:Int)]) (by kernel_rfl) (gc hl0.code (gc (by unfold inR;omega) gn))
def iP(l:Lqq)(i:Nat)(j:Int)(Mn:Nat)(Mc:List PV):St:=⟨fr 53 [(0,(.own 0)),(1,(pI 0)),(2,(pI (l.length:Int))),(3,(.fn 152 [] [])),(8,(pI (i:Int))),(9,(pI j)),(12,(pI (i:Int))),(13,(pI (l.length:Int))),(14,(pB (decide ((i:Int)<(l.length:Int))))),(17,(pI (i:Int)))],[some (.row 48 Mn Mc)]⟩
theorem aRs{l:Lqq}{i:Nat}{L:Lqq}{j'100:Int}{M'101:Lqq}{i':Nat}{L':Lqq}(h0:(i:Int)<(l.length:Int))(hl1:aE Tp 1 aFz (iP l i (i:Int) L.length (L.flatten.map aA)) (.exit 2) (iP l i j'100 M'101.length (M'101.flatten.map aA)))(h2:inR (((i+1):Nat):Int))(ei':i'=(i+1))(eL'n:L'.length=M'101.length)(eL'c:L'.flatten.map aA=(M'101.flatten.map aA)):aC Tp 1 aMl (kL l i L.length (L.flatten.map aA)) .normal (kL l i' L'.length (L'.flatten.map aA)):=by
 subst ei';have raw:aC Tp 1 aMl (kL l i L.length (L.flatten.map aA)) .normal (kL l (i+1) M'101.length (M'101.flatten.map aA)):=aC.fin (g:=⟨(rng [(4,4),(9,44)]),[],[],[]⟩) (o:=[bT,.k 5 ⟨(rng [(4,4),(10,2),(18,35)]),[],[],[]⟩ (.exit 2) (iP l i j'100 M'101.length (M'101.flatten.map aA))]) (l:=[_,_,_]) (by kernel_rfl) (gc h2 (gc hl1.code (gc (aQ h0) gn)))
 exact raw.cast (by rw [eL'n,eL'c])
theorem aCx{l:Lqq}{i:Nat}{L:Lqq}(h0:(l.length:Int)≤(i:Int)):aC Tp 1 aMl (kL l i L.length (L.flatten.map aA)) (.exit 0) (kL l i L.length (L.flatten.map aA)):=by
 exact aC.fin (g:=⟨(rng [(4,4),(9,44)]),[],[],[]⟩) (o:=[bF]) (l:=[_]) (by kernel_rfl) (gc (aR h0) gn)
theorem aRt{l:Lqq}{i:Nat}{j:Int}{M:Lqq}{y200 y201 y202 y203 y204 y205 j':Int}{M':Lqq}(h0:(0:Int)<j)(h1:M[j.toNat]? = some [y200,y201,y202])(h2:0≤j)(h3:uni 3 M)(h4:inR (j-1))(h5:M[(j-1).toNat]? = some [y203,y204,y205])(h6:0≤(j-1))(h7:(zD y202 y205)<0)(h8:[(aA y203),(aA y204),(aA y205)].length=3∧(j.toNat*3)+3≤(M.flatten.map aA).length)(h9:0≤(j-1)∧(j-1)<(M.length:Int))(h10:[(aA y200),(aA y201),(aA y202)].length=3∧((j-1).toNat*3)+3≤((M.flatten.map aA).take (j.toNat*3)++[(aA y203),(aA y204),(aA y205)]++(M.flatten.map aA).drop ((j.toNat*3)+3)).length)(ej':j'=(j-1))(eM'n:M'.length=M.length)(eM'c:M'.flatten.map aA=(((M.flatten.map aA).take (j.toNat*3)++[(aA y203),(aA y204),(aA y205)]++(M.flatten.map aA).drop ((j.toNat*3)+3)).take ((j-1).toNat*3)++[(aA y200),(aA y201),(aA y202)]++((M.flatten.map aA).take (j.toNat*3)++[(aA y203),(aA y204),(aA y205)]++(M.flatten.map aA).drop ((j.toNat*3)+3)).drop (((j-1).toNat*3)+3))):aC Tp 1 aFz (iP l i j M.length (M.flatten.map aA)) .normal (iP l i j' M'.length (M'.flatten.map aA)):=by
 subst ej';have raw:aC Tp 1 aFz (iP l i j M.length (M.flatten.map aA)) .normal (iP l i (j-1) M.length (((M.flatten.map aA).take (j.toNat*3)++[(aA y203),(aA y204),(aA y205)]++(M.flatten.map aA).drop ((j.toNat*3)+3)).take ((j-1).toNat*3)++[(aA y200),(aA y201),(aA y202)]++((M.flatten.map aA).take (j.toNat*3)++[(aA y203),(aA y204),(aA y205)]++(M.flatten.map aA).drop ((j.toNat*3)+3)).drop (((j-1).toNat*3)+3))):=aC.fin (g:=⟨(rng [(4,4),(10,2),(18,35)]),[],[],[]⟩) (o:=[bT,bT,bT,bT,bT,.x (.agg [(aA y200),(aA y201),(aA y202)]),bT,bT,bT,bT,bT,.x (.agg [(aA y203),(aA y204),(aA y205)]),bT,.c (pI (zD y202 y205)) [],bT,bT,bT,.x (.agg [(aA y203),(aA y204),(aA y205)]),.x (.agg [(aA y200),(aA y201),(aA y202)])]) (l:=[_,_,_,_,_,_,_,_,_,_,_,_,_,_,_,_,FC Tp 152 [(.p (.agg [(aA y200),(aA y201),(aA y202)])),(.p (.agg [(aA y203),(aA y204),(aA y205)]))] [] 1 (pI (zD y202 y205)) [],_,_,_,_,_,_,_,_,_,_,_,_,_,_,_,_,_,_]) (by kernel_rfl) (gc h4 (gc h10 (gc h9 (gc h8 (gc (eH (i:=j) h2 h1) (gc (aL (i:=j.toNat) h3 h1) (gc (aW (i:=j.toNat) h3 h1) (gc (eH (i:=j) h2 h1) (gc (aL (i:=(j-1).toNat) h3 h5) (gc (aW (i:=(j-1).toNat) h3 h5) (gc (eH (i:=(j-1)) h6 h5) (g2c h4 (gc (aQ h7) (g2c (aQ h0) (gc (FV.fc (aUi rfl) rfl) (gc (aQ h0) (gc (aL (i:=(j-1).toNat) h3 h5) (gc (aW (i:=(j-1).toNat) h3 h5) (gc (aQ h0) (gc (eH (i:=(j-1)) h6 h5) (gc (aQ h0) (gc h4 (g3c (aQ h0) (gc (aL (i:=j.toNat) h3 h1) (gc (aW (i:=j.toNat) h3 h1) (gc (aQ h0) (gc (eH (i:=j) h2 h1) (g4c (aQ h0) gn))))))))))))))))))))))))))))
 exact raw.cast (by rw [eM'n,eM'c])
theorem aRu{l:Lqq}{i:Nat}{j:Int}{M:Lqq}{y200 y201 y202 y203 y204 y205:Int}(h0:(0:Int)<j)(h1:M[j.toNat]? = some [y200,y201,y202])(h2:0≤j)(h3:uni 3 M)(h4:inR (j-1))(h5:M[(j-1).toNat]? = some [y203,y204,y205])(h6:0≤(j-1))(h7:(0:Int)≤(zD y202 y205)):aC Tp 1 aFz (iP l i j M.length (M.flatten.map aA)) (.exit 2) (iP l i j M.length (M.flatten.map aA)):=by
 exact aC.fin (g:=⟨(rng [(4,4),(10,2),(18,35)]),[],[],[]⟩) (o:=[bT,bT,bT,bT,bT,.x (.agg [(aA y200),(aA y201),(aA y202)]),bT,bT,bT,bT,bT,.x (.agg [(aA y203),(aA y204),(aA y205)]),bT,.c (pI (zD y202 y205)) [],bT,bT,bF]) (l:=[_,_,_,FC Tp 152 [(.p (.agg [(aA y200),(aA y201),(aA y202)])),(.p (.agg [(aA y203),(aA y204),(aA y205)]))] [] 1 (pI (zD y202 y205)) [],_,_,_,_,_,_,_,_,_,_,_,_,_,_,_,_,_,_]) (by kernel_rfl) (gc (aR h7) (g2c (aQ h0) (gc (FV.fc (aUi rfl) rfl) (gc (aQ h0) (gc (aL (i:=(j-1).toNat) h3 h5) (gc (aW (i:=(j-1).toNat) h3 h5) (gc (aQ h0) (gc (eH (i:=(j-1)) h6 h5) (gc (aQ h0) (gc h4 (g3c (aQ h0) (gc (aL (i:=j.toNat) h3 h1) (gc (aW (i:=j.toNat) h3 h1) (gc (aQ h0) (gc (eH (i:=j) h2 h1) (g4c (aQ h0) gn))))))))))))))))
theorem aRv{l:Lqq}{i:Nat}{j:Int}{M:Lqq}(h0:j≤0):aC Tp 1 aFz (iP l i j M.length (M.flatten.map aA)) (.exit 2) (iP l i j M.length (M.flatten.map aA)):=by
 exact aC.fin (g:=⟨(rng [(4,4),(10,2),(18,35)]),[],[],[]⟩) (o:=[bF,bF,bF,bF,bF,bF,bF,bF,bF,bF,bF,bF,bF]) (l:=[_,_,_,_,_,_,_,_,_,_,_,_,_]) (by kernel_rfl) (g8c (aR h0) (g5c (aR h0) gn))
theorem bYt(l:Lqq)(i:Nat)(A R:Lqq)(hA:A.length<1000)(hi:i=A.length)(x0 x1 x2:Int)(hu:uni 3 (A++[x0,x1,x2]::R)):∀ m,m≤A.length→(∀ t (h:t<A.length),m≤t→ltK 2 [x0,x1,x2] A[t]=true) →
  aE Tp 1 aFz (iP l i (m:Int) (mv A [x0,x1,x2] m R).length ((mv A [x0,x1,x2] m R).flatten.map aA)) (.exit 2) (iP l i (oF (ltK 2) [x0,x1,x2] A:Int) (ins (ltK 2) A [x0,x1,x2]++R).length ((ins (ltK 2) A [x0,x1,x2]++R).flatten.map aA)):=by
 have huA:∀ y∈A,y.length=3:=fun y hy=>hu y (pQ _ hy)
 have huM:∀ m,uni 3 (mv A [x0,x1,x2] m R):=fun m y hy=>by
  unfold mv at hy
  rcases nV.1 hy with h | h
  ·exact huA y (List.mem_of_mem_take h)
  ·rcases kM.1 h with rfl | h
   ·rfl
   ·rcases nV.1 h with h | h
    ·exact huA y (List.mem_of_mem_drop h)
    ·exact hu y (aBl _ (kQ7 _ h))
 intro m
 induction m with
 | zero =>
  intro _ hlt;have e:=aGa (ltK 2) [x0,x1,x2] A 0 (Nat.zero_le _) hlt (.inl rfl);rw [← bJh,e];exact .exit (aRv (by simp)) (by simp)
 | succ m ih =>
  intro hm hlt;have hy:=kQ0 (show m<A.length by omega)
  generalize A[m]=y at hy
  obtain ⟨y0,y1,y2,rfl⟩:=len3 (huA y (kQ4 hy));have e1:((m+1:Nat):Int).toNat=m+1:=by omega
  have e2:(((m+1:Nat):Int)-1).toNat=m:=by omega
  have hl:=xO A [x0,x1,x2] (m+1) R hm;have g1:(mv A [x0,x1,x2] (m+1) R)[m+1]? = some [x0,x1,x2]:=by rw [aIu A _ _ R hm];simp
  have g2:(mv A [x0,x1,x2] (m+1) R)[m]? = some [y0,y1,y2]:=by rw [aIu A _ _ R hm,if_pos (by omega)];exact hy
  by_cases hc:zD x2 y2<0
  ·have st:=vL (k:=3) (i:=m+1) (x:=[y0,y1,y2]) (huM (m+1)) (by omega) rfl
   have hs1:uni 3 ((mv A [x0,x1,x2] (m+1) R).set (m+1) [y0,y1,y2]):=aTc (huM _) rfl;have st2:=vL (k:=3) (i:=m) (x:=[x0,x1,x2]) hs1 (by rw [oT];omega) rfl
   have gm:((mv A [x0,x1,x2] (m+1) R).set (m+1) [y0,y1,y2])[m]? = some [y0,y1,y2]:=by rw [List.getElem?_set,if_neg (by omega)];exact g2
   have hsw:=bPb A [x0,x1,x2] (m+1) R hm (by omega) [y0,y1,y2] (by simpa using hy)
   rw [Nat.add_sub_cancel] at hsw
   simp only [iM,List.map_nil] at st st2
   refine .step (aRt (j:=((m+1:Nat):Int)) (j':=(m:Int)) (M':=mv A [x0,x1,x2] m R) (by omega) (by rw [e1];exact g1) (by omega) (huM _) (by unfold inR;omega) (by rw [e2];exact g2) (by omega) hc ⟨rfl,by rw [e1];exact aW (huM _) g1⟩ ⟨by omega,by omega⟩ ⟨rfl,?_⟩ (by omega) (by rw [hl,xO A _ _ R (by omega)]) ?_) (ih (by omega) fun t ht h1 => ?_)
   ·rw [e1,e2,st];exact aW hs1 gm
   ·rw [e1,e2,st,st2,hsw]
   ·by_cases h2:t=m
    ·subst h2
     have h3:=hy;rw [kQ0 ht,Option.some.injEq] at h3
     rw [h3];simpa [ltK] using hc
    ·exact hlt t ht (by omega)
  ·have e:=aGa (ltK 2) [x0,x1,x2] A (m+1) hm hlt (.inr ⟨[y0,y1,y2],by simpa using hy,by simpa [ltK] using hc⟩)
   rw [← bJh,e];exact .exit (aRu (by omega) (by rw [e1];exact g1) (by omega) (huM _) (by unfold inR;omega) (by rw [e2];exact g2) (by omega) (by omega)) (by simp)
theorem bOx(l:Lqq)(hu:uni 3 l)(hn:l.length<1000):FMM Tp 216 [.own 0,.p (aA 0),.p (aA (l.length:Int)),.fn 152 [] []] [some (.row 48 l.length (l.flatten.map aA))] (.tup []) [some (.row 48 (isort (ltK 2) l).length ((isort (ltK 2) l).flatten.map aA))]:=by
 have hui:∀ i,uni 3 (isort (ltK 2) (l.take i)):=fun i y hy=>hu y (List.mem_of_mem_take ((aGb (ltK 2) _ y).1 hy))
 have key:∀ d i,i+d=l.length→1≤i→aE Tp 1 aMl (kL l i (isort (ltK 2) (l.take i)++l.drop i).length ((isort (ltK 2) (l.take i)++l.drop i).flatten.map aA)) (.exit 0) (kL l l.length (isort (ltK 2) l).length ((isort (ltK 2) l).flatten.map aA)):=by
  intro d
  induction d with
  | zero =>
   intro i hi _;obtain rfl:i=l.length:=by omega
   rw [List.take_length,List.drop_length,List.append_nil];exact .exit (aCx (by omega)) (by simp)
  | succ d ih =>
   intro i hi h1;have hlt:i<l.length:=by omega
   have hx:=hu l[i] (fV hlt);generalize hxx:l[i]=x at hx
   obtain ⟨x0,x1,x2,rfl⟩:=len3 hx;have hAl:(isort (ltK 2) (l.take i)).length=i:=by rw [wC,nC];omega
   have hdr:l.drop i=[x0,x1,x2]::l.drop (i+1):=by rw [aKr hlt,hxx]
   have hin:=bYt l i (isort (ltK 2) (l.take i)) (l.drop (i+1)) (by omega) hAl.symm x0 x1 x2 (by
    intro y hy
    rcases nV.1 hy with h | h
    ·exact hui i y h
    ·rcases kM.1 h with rfl | h
     ·rfl
     ·exact hu y (List.mem_of_mem_drop h)) i (by omega) (fun t ht h2=>by omega)
   have hmv:mv (isort (ltK 2) (l.take i)) [x0,x1,x2] i (l.drop (i+1))=isort (ltK 2) (l.take i)++l.drop i:=by
    have:=bYv (isort (ltK 2) (l.take i)) [x0,x1,x2] (l.drop (i+1));rw [hAl] at this;rw [this,hdr]
   have hsn:=aRz (ltK 2) l i hlt;rw [hxx] at hsn
   rw [hmv,← hsn] at hin
   exact .step (aRs (by omega) hin (by unfold inR;omega) rfl rfl rfl) (ih (i+1) (by omega) (by omega))
 rcases Nat.eq_zero_or_pos l.length with h0 | hp
 ·have:l=[]:=aDo h0
  subst this;exact aUj (aE.exit (aCx (l:=[]) (L:=[]) (i:=1) (by simp)) (by simp))
 ·have:=key (l.length-1) 1 (by omega) (by omega)
  have e1:isort (ltK 2) (l.take 1)++l.drop 1=l:=by
   cases l with
   | nil=>simp at hp
   | cons x r=>simp [isort,ins,oF]
  rw [e1] at this
  exact aUj this
def wA(l:Lqq)  : St:=⟨fr 63 [(0,(.own 0)),(1,(pI (l.length:Int))),(2,(.fn 152 [] [])),(6,(pI 20)),(7,(pI 0)),(8,(pI 20))],[some (.row 48 l.length (l.flatten.map aA))]⟩
def wB(l:Lqq)  : St:=⟨fr 63 [(0,(.own 0)),(1,(pI (l.length:Int))),(2,(.fn 152 [] [])),(6,(pI 20)),(7,(pI 0)),(8,(pI 20))],[some (.row 48 ((isort (ltK 2) l).length) ((isort (ltK 2) l).flatten.map aA))]⟩
theorem bOy{l:Lqq}(hl0:aE Tp 1 (sub (cd Tryz.f188) [1,1,0,0,0]) (wA l ) (.exit 0) (wA l ))(h1:uni 3 l)(h2:l.length<1000)(hl3:aE Tp 1 (sub (cd Tryz.f188) [1,1,1,1,0,0]) (wB l ) (.exit 2) (wB l )):FMM Tp 188 [(.own 0),(pI (l.length:Int)),(.fn 152 [] [])] [some (.row 48 l.length (l.flatten.map aA))] (.tup []) [some (.row 48 ((isort (ltK 2) l).length) ((isort (ltK 2) l).flatten.map aA))]:=by
 exact FMM.fin (k:=1) (g:=⟨[],[],[],[]⟩) rfl Tryz.func188 rfl (o:=[.k 6 ⟨(rng [(3,3),(10,13),(27,1),(43,1),(60,1)]),[],[],[]⟩ (.exit 0) (wA l ),.c (.tup []) [(0,(.row 48 ((isort (ltK 2) l).length) ((isort (ltK 2) l).flatten.map aA)))],.k 1 ⟨(rng [(3,3),(10,53)]),[],[],[]⟩ (.exit 2) (wB l )]) (l:=[_,FC Tp 216 [(.own 0),(pI 0),(pI (l.length:Int)),(.fn 152 [] [])] [(0,(.row 48 l.length (l.flatten.map aA)))] 1 (.tup []) [(0,(.row 48 ((isort (ltK 2) l).length) ((isort (ltK 2) l).flatten.map aA)))],_]) (by kernel_rfl) (gc hl3.code (gc (FMM.fc (ids:=[0]) (bOx l h1 h2) (by kernel_rfl)) (gc hl0.code gn)))
theorem aRw{l:Lqq}(h0:(l.length:Int)<20):aC Tp 1 (sub (cd Tryz.f188) [1,1,0,0,0]) (wA l ) (.exit 0) (wA l ):=by
 exact aC.fin (g:=⟨(rng [(3,3),(10,13),(27,1),(43,1),(60,1)]),[],[],[]⟩) (o:=[bF]) (l:=[_]) (by kernel_rfl) (gc (lT h0) gn)
theorem aRx{l:Lqq}(h0:(l.length:Int)≤20):aC Tp 1 (sub (cd Tryz.f188) [1,1,1,1,0,0]) (wB l ) (.exit 2) (wB l ):=by
 exact aC.fin (g:=⟨(rng [(3,3),(10,53)]),[],[],[]⟩) (o:=[bF]) (l:=[_]) (by kernel_rfl) (gc (aR h0) gn)
theorem bOz(l:Lqq)(hu:uni 3 l)(hn:l.length<20):FMM Tp 188 [.own 0,.p (aA (l.length:Int)),.fn 152 [] []] [some (.row 48 l.length (l.flatten.map aA))] (.tup []) [some (.row 48 (isort (ltK 2) l).length ((isort (ltK 2) l).flatten.map aA))] := 
 bOy (aE.exit (aRw (by omega)) (by simp)) hu (by omega) (aE.exit (aRx (by omega)) (by simp))
theorem bPa{l:Lqq}(h0:uni 3 l)(h1:l.length<20):FMM Tp 151 [(.own 0),(.fn 152 [] [])] [some (.row 48 l.length (l.flatten.map aA))] (.tup []) [some (.row 48 ((isort (ltK 2) l).length) ((isort (ltK 2) l).flatten.map aA))]:=by
 exact FMM.fin (k:=1) (g:=⟨[],[],[],[]⟩) rfl Tryz.func151 rfl (o:=[.c (.tup []) [(0,(.row 48 ((isort (ltK 2) l).length) ((isort (ltK 2) l).flatten.map aA)))]]) (l:=[FC Tp 188 [(.own 0),(pI (l.length:Int)),(.fn 152 [] [])] [(0,(.row 48 l.length (l.flatten.map aA)))] 1 (.tup []) [(0,(.row 48 ((isort (ltK 2) l).length) ((isort (ltK 2) l).flatten.map aA)))]]) (by kernel_rfl) (gc (FMM.fc (ids:=[0]) (bOz l h0 h1) (by kernel_rfl)) gn)
theorem bYu(l:Lqq)(hu:uni 3 l)(hn:l.length<20):FMM Tp 151 [.own 0,.fn 152 [] []] [some (.row 48 l.length (l.flatten.map aA))] (.tup []) [some (.row 48 (isort (ltK 2) l).length ((isort (ltK 2) l).flatten.map aA))]:=bPa hu hn
end
end KV
end Go.Proofs
