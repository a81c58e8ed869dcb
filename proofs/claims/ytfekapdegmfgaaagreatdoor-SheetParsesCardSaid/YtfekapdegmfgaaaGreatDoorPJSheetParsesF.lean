/- Parts of the proof of JSheetParses: laws of walks, contracts of functions, plain models. No condition. -/
import Derived.RangeFuncNested
import Derived.Lib.CountLaws
import Derived.Lib.IndexBytes
import Derived.Laws.RangeAny
import Derived.Laws.DeepNot64
import Derived.Laws.Unary
import Derived.DeepKeys5
import Derived.Test.YtfekapdegmfgaaaGreatDoorPJSheetParsesE
set_option linter.unusedVariables false
set_option linter.unusedSimpArgs false
set_option linter.unnecessarySimpa false
set_option maxRecDepth 100000
section
namespace Go.Proofs
open Go.RowKit
namespace KV
open Tryz
variable {P:Program} {n:Nat}
def aEo{α:Type}(F:Fence)(n:Nat)(P:Program)(g:Nat)(lb:Array Value)(encs:α→Array Value)(b:Nat)(Kp:World→World→Prop)(S Sp:List α→Prop)(N:List α→α→Prop)(w:World):Prop :=
 ∀ (l:Nat) (J Jx:List α→World→Prop) (W:World),Below w.heap.size w W→AbidesFrom W.heap.size J→AbidesFrom W.heap.size Jx→(∀ pre A v,J pre A→J pre (A.setCell ⟨b,0,none⟩ v)) →
  (∀ pre x W0,J pre W0→N pre x→YieldAt F (n-1) P l (encs x) W0 fun e W' =>
   (e = .returned (.bool true)∧J (pre++[x]) W'∧Kp W0 W')∨(e = .returned (.bool false)∧Jx (pre++[x]) W')) →
  J [] W →
  CallsIn F n P g (#[.func (.yield l) #[] #[]]++lb) W fun e W'=>(∃ v,e = .returned v)∧((∃ xs,S xs∧J xs W')∨(∃ pre,Sp pre∧Jx pre W'))

def bJi{α:Type}(B:Nat)(Kp:World→World→Prop)(I:List α→World→Prop)(Ix:Code→List α→World→Prop)(xs:List α)(V W:World):Exit→Act→World→Prop
 | .normal,_,W'=>KeepsFrom B W W'∧Kp V W'∧I xs W'
 | .ret,_,W'=>KeepsFrom B W W'∧Ix .ret xs W'
 | .exit id,_,W'=>KeepsFrom B W W'∧Ix (.exit id) xs W'
 | .goto t,_,W'=>KeepsFrom B W W'∧Ix (.goto t) xs W'
 | .panic _,_,_=>False
 | .outgrown,_,_=>False

theorem tD{α:Type}{F:Fence}{g:Operand}{ps:Array Tmp}{assign body:Code}{Q:Exit→Act→World→Prop}{a:Act}{w:World}
  (hro:F.round=none) (h1:1≤n) {gf:Nat} {lb:Array Value} (hg:a.eval g = .func (.func gf) #[] lb) (hFg:F.fn gf) (eg:∀ args w,(callFunc gf args).run P w = .ok (.enter gf args) w)
  {encs:α→Array Value} {b:Nat} {Kp:World→World→Prop} {S Sp:List α→Prop} {N:List α→α→Prop} {w0:World} (hseq:aEo F (n-1) P gf lb encs b Kp S Sp N w0)
  (hKt:∀ {A B C:World},Kp A B→Kp B C→Kp A C) (hKb:∀ (W:World) (l:Nat) (o o':Obj),w.heap.size≤l→W.heap[l]? = some o→o.isCells=false→o.isWalk=false→Kp W (W.putObj l o')) (Gr:Below w0.heap.size w0 w) (hps:∀ x,(encs x).size=ps.size)
  (I:List α→World→Prop) (Ix:Code→List α→World→Prop) (hI:OwnFrom w.heap.size I) (hbl:b<w.heap.size) (hIb:∀ pre A v,I pre A→I pre (A.setCell ⟨b,0,none⟩ v)) (hIx:∀ c,OwnFrom w.heap.size (Ix c)) (h0:I [] w) (Ax:List α→α→World→Act→World→Prop) (hAx:∀ pre x V a',OwnFrom w.heap.size (fun (_:Unit) W=>Ax pre x V a' W))
  (hassign:∀ (l:Nat) (pre:List α) (x:α) (V W:World) (K:Act→World→Prop),V=W→I pre V→(∀ a' W',KeepsFrom w.heap.size W W'→Ax pre x V a' W'→K a' W') →
   assign.wpIn (F.inRound l) (n-1-1) P (Exit.then K (fun _ _ _=>False)) { tmps:=(ps.zip (encs x)).foldl (fun t (p,v)=>t.setIfInBounds p v) a.tmps,defers:=[] } W)
  (hbody:∀ (l:Nat) (pre:List α) (x:α) (a':Act) (V W:World),w.heap.size≤l→(∃ r,W.heap[l]? = some (.loop r))→Ax pre x V a' W→N pre x→body.wpIn (F.inRound l) (n-1-1) P (bJi w.heap.size Kp I Ix (pre++[x]) V W) a' W)
  (hdone:∀ (D:Nat) (xs:List α) (W:World),w.heap.size≤D→S xs→I xs W→W.heap[D]? = some (.deferred (some []))→Q .normal { a with defers:={ target := .collected D,args := #[] }::a.defers } W)
  (hstop:∀ (D:Nat) (c:Code) (pre:List α) (W:World),w.heap.size≤D→Sp pre→Ix c pre W→W.heap[D]? = some (.deferred (some []))→c.wpIn F n P Q { a with defers:={ target := .collected D,args := #[] }::a.defers } W) :
  (Code.rangeFunc g ps assign body).wpIn F n P Q a w:=by
 refine wpIn_rangeFunc fun fn hfn => ?_
 rw [hro];obtain ⟨rc,hrc⟩:∃ rc:LoopState→Option Code→Loop,rc=fun st pe=>{ state:=st,pending:=pe,fn,tmps:=a.tmps,params:=ps,assign,body,defers:=w.heap.size }:=⟨_,rfl⟩
 obtain ⟨W1,J1⟩:∃ W1,(w.alloc (.deferred (some []))).alloc (.loop (rc .ready none))=W1:=⟨_,rfl⟩;have hsz:W1.heap.size=w.heap.size+2:=by rw [← J1];simp
 have P5:W1.heap[w.heap.size+1]? = some (.loop (rc .ready none)):=by
  have:=World.alloc_heap_new (w.alloc (.deferred (some []))) (.loop (rc .ready none));rw [World.size_alloc] at this
  rw [← J1];exact this
 have P6:W1.heap[w.heap.size]? = some (.deferred (some [])):=by
  rw [← J1];exact (Below.heap_alloc _ _ _ (by simp)).trans (World.alloc_heap_new w _)
 have P7:I [] W1:=by rw [← J1];exact hI.alloc _ (hI.alloc _ h0)
 have Dq:Below w0.heap.size w0 W1:=by
  rw [← J1];exact Gr.trans ((((Below.refl _ w).alloc (Bo _) _).alloc (by simp) _).mono Gr.size)
 let Bk (st:LoopState) (pe:Option Code) (W:World):Prop:=W.heap[w.heap.size+1]? = some (.loop (rc st pe))∧W.heap[w.heap.size]? = some (.deferred (some []))
 have bkKeep:∀ {st:LoopState} {pe:Option Code} {A B:World} {row:Option Nat},Bk st pe A→A.grownBy B row→(∀ r,row=some r→∃ o:Obj,A.heap[r]? = some o∧o.isWalk=true)→Bk st pe B:=fun hs It hr =>
  ⟨(grownBy_keeps It hr hs.1 rfl).trans hs.1,(grownBy_keeps It hr hs.2 rfl).trans hs.2⟩
 have walkOwn:∀ {A:World} {row:Option Nat},(∀ r,row=some r→W1.heap.size≤r∧∃ o:Obj,A.heap[r]? = some o∧o.isWalk=true)→∀ r,row=some r→w.heap.size≤r∧∃ o:Obj,A.heap[r]? = some o∧o.isCells=false:=fun hr r e=>by
  obtain ⟨hB,o,ho,hw⟩:=hr r e;exact ⟨by omega,o,ho,Obj.not_cells_of_walk hw⟩
 refine ⟨w.heap.size+1,[{ target := .collected w.heap.size,args := #[] }],W1,{ target := .fn (.func gf) lb,args := #[.func (.yield (w.heap.size+1)) #[] #[]] },W1,gf,
  #[.func (.yield (w.heap.size+1)) #[] #[]]++lb,W1,?_,?_,?_,?_,fun _=>h1,?_⟩
 ·rw [← J1,hrc];exact run_enterLoop_outer _ _ _ _ _
 ·simp only [resolve,hg]
  simp [go_sem]
 ·intro f' On;simp [Target.leads] at On;subst On;exact hFg
 ·simp [invoke,go_sem,eg]
 ·refine (hseq (w.heap.size+1) (fun pre W=>I pre W∧Bk .ready none W) (fun pre W=>∃ c,Ix c pre W∧Bk .done (some c) W) W1 Dq
   (fun s A B row hs It hr=>⟨hI s A B row hs.1 It (walkOwn hr),bkKeep hs.2 It fun r e=>(hr r e).2⟩)
   (fun s A B row hs It hr=>by
    obtain ⟨c,hc,hb⟩:=hs;exact ⟨c,hIx c s A B row hc It (walkOwn hr),bkKeep hb It fun r e=>(hr r e).2⟩)
   (fun s A v hs=>⟨hIb s A v hs.1,(Below.heap_setCell _ _ _ _ (fun e=>by have:w.heap.size+1=b:=e;omega)).trans hs.2.1,(Below.heap_setCell _ _ _ _ (fun e=>by have:w.heap.size=b:=e;omega)).trans hs.2.2⟩)
   ?_ ⟨P7,P5,P6⟩).mono ?_
  ·-- a round
   rintro pre x W ⟨hi,hbk⟩ hlen;have hbW:=hbk;have hlt:w.heap.size+1<W.heap.size:=(Em.1 hbW.1).1;have hy:=run_yield (P:=P) (args:=encs x) hbW.1 (by rw [hrc];exact hps x)
   rw [hrc] at hy
   refine ⟨fn,_,assign,body,hy,roundIn_of_wpIn hfn (hassign _ pre x W W _ rfl hi ?_)⟩;clear hy;intro a' Wa hkf hax;have hl:=hkf.same _ _ (by omega) hbW.1 rfl
   have hk:=hkf.same _ _ (Bo _) hbW.2 rfl;have hlta:w.heap.size+1<Wa.heap.size:=(Em.1 hl).1;refine ⟨_,run_beginRound hl (by rw [hrc]),?_⟩
   have Bi:(Wa.putObj (w.heap.size+1) (.loop { rc .ready none with state := .busy })).heap[w.heap.size+1]? = some (.loop { rc .ready none with state := .busy }):=World.putObj_heap_same hlta
   have Dc:(Wa.putObj (w.heap.size+1) (.loop { rc .ready none with state := .busy })).heap[w.heap.size]? = some (.deferred (some [])):=(World.putObj_heap_other (by omega)).trans hk
   refine wpIn_mono (hbody _ pre x a' W _ (by omega) ⟨_,Bi⟩ ((hAx pre x W a').putObj (s:=()) _ hax (by omega) hl rfl) hlen) ?_
   have fin:∀ (jump:Option Code) (W3:World),KeepsFrom w.heap.size (Wa.putObj (w.heap.size+1) (.loop { rc .ready none with state := .busy })) W3 →
     (Instr.endRound (w.heap.size+1) jump).run P W3 = .ok (.bool jump.isNone) (W3.putObj (w.heap.size+1) (.loop (rc (if jump.isNone then .ready else .done) jump))) ∧
     W3.heap[w.heap.size+1]? = some (.loop { rc .ready none with state := .busy })∧Bk (if jump.isNone then .ready else .done) jump (W3.putObj (w.heap.size+1) (.loop (rc (if jump.isNone then .ready else .done) jump))):=fun jump W3 Ht=>by
    have Cl:=Ht.same _ _ (by omega) Bi rfl
    have hrun:=run_endRound (P:=P) jump Cl;rw [hrc] at hrun
    refine ⟨by rw [hrc];exact hrun,Cl,?_⟩
    exact ⟨World.putObj_heap_same (Em.1 Cl).1,(World.putObj_heap_other (by omega)).trans (Ht.same _ _ (Bo _) Dc rfl)⟩
   rintro e a3 W3 hp;cases e with
   | normal =>
    obtain ⟨Ht,Nm,Jf⟩:=hp;obtain ⟨hr,Cl,Jg⟩:=fin none W3 Ht;exact ⟨_,_,hr,.inl ⟨rfl,⟨hI.putObj _ Jf (by omega) Cl rfl,Jg⟩,hKt Nm (hKb _ _ _ _ (by omega) Cl rfl rfl)⟩⟩
   | ret =>
    obtain ⟨Ht,Jf⟩:=hp;obtain ⟨hr,Cl,Jg⟩:=fin (some .ret) W3 Ht;exact ⟨_,_,hr,.inr ⟨rfl,.ret,(hIx _).putObj _ Jf (by omega) Cl rfl,Jg⟩⟩
   | exit id =>
    obtain ⟨Ht,Jf⟩:=hp;obtain ⟨hr,Cl,Jg⟩:=fin (some (.exit id)) W3 Ht;exact ⟨_,_,hr,.inr ⟨rfl,.exit id,(hIx _).putObj _ Jf (by omega) Cl rfl,Jg⟩⟩
   | goto t =>
    obtain ⟨Ht,Jf⟩:=hp;obtain ⟨hr,Cl,Jg⟩:=fin (some (.goto t)) W3 Ht;exact ⟨_,_,hr,.inr ⟨rfl,.goto t,(hIx _).putObj _ Jf (by omega) Cl rfl,Jg⟩⟩
   | panic ch=>exact hp.elim
   | outgrown=>exact hp.elim
  ·-- behind the iterator
   rintro e W2 ⟨⟨v,rfl⟩,(⟨xs,hS,hi,hb⟩ | ⟨pre,hSp,c,hi,hb⟩)⟩
   ·have:=run_endLoop (P:=P) hb.1 (by rw [hrc];simp)
    rw [hrc] at this
    exact ⟨none,_,this,hdone _ xs _ (Bo _) hS (hI.putObj _ hi (by omega) hb.1 rfl) ((World.putObj_heap_other (by omega)).trans hb.2)⟩
   ·have:=run_endLoop (P:=P) hb.1 (by rw [hrc];simp)
    rw [hrc] at this
    exact ⟨some c,_,this,hstop _ c pre _ (Bo _) hSp ((hIx c).putObj _ hi (by omega) hb.1 rfl) ((World.putObj_heap_other (by omega)).trans hb.2)⟩
end KV
end Go.Proofs
end
section
namespace Go.Proofs
open Go.RowKit
namespace KV
open Tryz
def aEn(x:List UInt8 × Bool):Array Value := #[.string ⟨x.1.toArray⟩,.bool x.2]
theorem bBi(s:List UInt8)(hs:s.length<100000)(m:Int)(F0:Nat→Prop)(n b:Nat)(hn:1≤n)(w:World)(J0:F0 0)(hFb:F0 b)(Gr:b≠0)
  (hm:w.cell? ⟨0,0,none⟩=some (.int .i64 m)) (hbox:Boxed w b 9 (.string ⟨s.toArray⟩)) :
  aEo Fence.wide n Tp 175 #[.pointer (some ⟨b,0,none⟩)] aEn b (KpG F0) (fun ys=>ys=cG s) (fun pre=>pre <+: cG s) (fun pre x=>pre++[x] <+: cG s) w:=by
 intro l J Jx W hb hJ hJx hJb hY h0;have P3:0<w.heap.size:=aSp hm;exact aKv s hs m F0 n l b hn J Jx (fun pre x W0 hj hlt=>hY pre x W0 hj hlt) W hJ J0 hFb Gr hJb
  (by rw [iD (hb.block 0 P3) 0];exact hm) ((hb.block b hbox.lt).trans hbox) h0
end KV
end Go.Proofs
end
section
set_option maxRecDepth 1000000
namespace Go.Proofs
open Go.RowKit
namespace KV
open Tryz
theorem bJf{C:Cx}{w:World}(h:oT C w):C.F 0∧∃ m,w.cell? ⟨0,0,none⟩=some (.int .i64 m):=by
 refine ⟨(h (0,fun cs=>∃ m,cs[0]? = some (.int .i64 m)) (by simp [bTh])).1,?_⟩
 exact (aFb h).1
theorem bJg{P:Program}{C:Cx}{M:Mem}{w:World}{bx ty c:Nat}{v:Value}(hM:aX P C M w)(hbx:M[bx]? = some (some (.box ty [.p (.v v)])))(hc:C.ι bx=some c):Boxed w c ty v:=by
 obtain ⟨b,arr,q0,q1,q2,q3,_⟩:=hM.box _ _ _ hbx;rw [hc] at q0;cases q0
 obtain ⟨u,rfl⟩:∃ u,arr = #[u]:=by
  have:arr.size=1:=by simpa using q2
  exact ⟨arr[0],by ext i G5 Dx;(· simpa using this);(· have:i=0:=(by omega);subst this;rfl)⟩
 have h:=q3 0 (by simp)
 simp at h
 cases h with
 | p _ _ h=>cases h;exact q1
def cC(P:Program)(kb kk:Nat)(body:Code)(st:St)(e:Ex)(m:Mem):Prop:=∃ (E:St) (g:Gh),aA P kb body st e E∧yK E.m=true∧∃ t',gh kk g E=some ⟨t',m⟩
theorem cC.cast{P:Program}{kb kk:Nat}{body:Code}{st:St}{e:Ex}{m m':Mem}(h:cC P kb kk body st e m)(he:m=m'):cC P kb kk body st e m':=he ▸ h
theorem aAy{β ε:Type}{k kb kk gi p1 p2 bx:Nat}{asg body cc:Code}{g0:Gh}(s:List UInt8)(hs:s.length<100000)(F7:St)(S:β→St)(R:ε→St)(T:List AV)(f:β→List UInt8 × Bool→Except ε β)(a0:β)
  (s1:List AV→List UInt8 × Bool→List AV) (actOf:Act→List UInt8 × Bool→Act)
  (hcc:cc = .rangeFunc (.tmp gi) #[p1,p2] asg body) (Ps:F7.t=T) (hg:T[gi]? = some (.fn 175 [] [.ptr bx 0])) (hbx:F7.m[bx]? = some (some (.box 9 [.p (aC s)])))
  (hkk:F7.m.length≤kk) (h0:∃ t',gh kk g0 ⟨T,aZ F7.m bx (some .dead)⟩=some ⟨t',(S a0).m⟩)
  (hST:∀ a,(S a).t=T) (hRT:∀ e,(R e).t=T)
  (hmp:∀ a,oL (aZ F7.m bx (some .dead)) (S a).m) (hmpR:∀ e,oL (aZ F7.m bx (some .dead)) (R e).m) (hpk:∀ a,xT (S a).m) (hpkR:∀ e,xT (R e).m) (Nf:xT (aZ F7.m bx (some .dead))) (hq:∀ a,nmM (S a).m=true) (hqR:∀ e,nmM (R e).m=true) (hlen:∀ a,(S a).m.length≤kb) (hnrf:nrf body=true)
  (Pt:∀ (a:Act) (x:List UInt8 × Bool) (l:Nat) (K:Act→World→Prop) (W:World),K (actOf a x) W→asg.wpIn ((Fen none).inRound l) (3-1-1) Tp (Exit.then K (fun _ _ _=>False)) { tmps:=(#[p1,p2].zip (aEn x)).foldl (fun t (y:Nat × Value)=>t.setIfInBounds y.1 y.2) a.tmps,defers:=[] } W)
  (Pu:∀ (a:Act) (x:List UInt8 × Bool) (C:Cx) (M:Mem) (W:World),cV C M W T a.tmps→cV C M W (s1 T x) (actOf a x).tmps) (Pv:∀ (a:Act) (x:List UInt8 × Bool),(actOf a x).defers=[])
  (hbody:∀ pre x a,pre++[x] <+: cG s→itB f a0 pre = .ok a →
   (∀ a',f a x = .ok a'→cC Tp kb kk body ⟨s1 T x,(S a).m⟩ .normal (S a').m)∧(∀ e,f a x = .error e→cC Tp kb kk body ⟨s1 T x,(S a).m⟩ .ret (R e).m)) :
  (∀ a,itB f a0 (cG s) = .ok a→aA Tp k cc F7 .normal (S a))∧(∀ e,itB f a0 (cG s) = .error e→aA Tp k cc F7 .ret (R e)):=by
 have hlk:(aZ F7.m bx (some .dead)).length≤kk:=by
  rw [uY (Cq.1 hbx).1];exact hkk
 have main:∀ (Qf:Ex→St→Prop),(∀ a,itB f a0 (cG s) = .ok a→Qf .normal (S a))→(∀ e,itB f a0 (cG s) = .error e→Qf .ret (R e)) →
   ∀ (C0:Cx) (M0:Mem) (w0:World) (a:Act) (w:World),M0.length≤k→Sim Tp C0 M0 w0 F7 a w→∀ (ro:Option Nat),kJ ro cc→∀ (n:Nat),cc.wpIn (Fen ro) n Tp (fun e' a' w'=>∃ e An,Qf e An∧e'=e.toExit∧Sim Tp C0 M0 w0 An a' w') a w:=by
  intro Qf Pw Px C0 M0 w0 a w hk Cn ro hro n;subst hcc;have Ng:ro=none:=hro.resolve_right (by simp [nrf])
  subst Ng;refine aQe (n:=3) ?_;obtain ⟨C,hSl,hM,hF,hD⟩:=Cn;rw [Ps] at hSl
  obtain ⟨b,hu,hb⟩:=bBg (hSl.at hg) hbx rfl
  have hB:=bJg hM hbx hb;obtain ⟨J0,m,hm⟩:=bJf hM.lib;have hbF:¬ C.F b:=hM.nF _ _ _ hbx rfl hb;have Gr:b≠0:=fun e=>hbF (e ▸ J0)
  have hbl:b<w.heap.size:=hM.lt _ _ _ hbx rfl hb;obtain ⟨Cd,hCd⟩:∃ Cd,Cd=C.close bx false:=⟨_,rfl⟩;obtain ⟨Md,hMd⟩:∃ Md,Md=aZ F7.m bx (some .dead):=⟨_,rfl⟩;have hMM:aX Tp Cd Md w:=by rw [hCd,hMd];exact lO hM false hbx rfl
  have hFd:Fr C F7.m w Cd Md w:=by rw [hCd,hMd];exact cY false hbx rfl
  have hA:aKs Cd Md w b:=by
   refine ⟨fun h => ?_,fun id o ho hl he => ?_,hbl,hMM.Fs,fun id o c ho hl he=>hMM.lt id o c ho hl he⟩
   ·rw [hCd] at h
    rcases h with h | ⟨h,_⟩
    ·exact hbF h
    ·cases h
   ·rw [hMd] at ho
    rw [hCd] at he
    by_cases e:id=bx
    ·subst e;rw [aY] at ho;cases ho;cases hl
    ·have C8:=(aR F7.m bx id _ o (fun e'=>e e'.symm)).1 ho
     exact e (hM.inj _ _ _ _ _ C8 hl hbx rfl he hb)
  have hdk:xT Md:=by rw [hMd];exact Nf
  have back:∀ {M':Mem} {W:World} {C':Cx},Fr Cd Md (gS w b W) C' M' W→Fr C F7.m w C' M' W:=fun fr=>by
   rw [hCd,hMd] at fr
   exact pG.back hbx rfl hb hbl fr
  rw [← hMd] at h0 hlk hmp hmpR
  have hbase:gS w b w=w:=by
   unfold gS;have e:w.heap.setIfInBounds b (w.heap.getD b (.cells #[] 0 (0,0)))=w.heap:=by
    apply Array.ext_getElem?;intro i
    by_cases e:b=i
    ·subst e
     have:w.heap[b]? = some w.heap[b]:=rU hbl;simp [hbl,Array.getD]
    ·simp [e]
   rw [e]
  have hseq:=bBi s hs m (fun c=>C.F c∨c=b) 2 b (by omega) w (.inl J0) (.inr rfl) Gr hm hB
  have hFl:∀ c,(C.F c∨c=b)→c<w.heap.size:=fun c hc=>hc.elim (hM.Fs c) (fun e=>e ▸ hbl)
  have fin:∀ (D:Nat) (W:World) (st:St),st.t=T→oL Md st.m→nmM st.m=true→xT st.m→w.heap.size≤D→pG Tp Cd Md w b st.m W→W.heap[D]? = some (.deferred (some []))→Sim Tp C0 M0 w0 st { a with defers:={ target := .collected D,args := #[] }::a.defers } W:=by
   intro D W st hT Nh Py Ni Ih hI hDm;obtain ⟨C1,h1,h2⟩:=hI;obtain ⟨F',Ep,frd,_,hSo⟩:=cFg Nh Py (by rw [cH];exact hA.Fs) h1 h2
   have Ez:=back frd;rw [cH] at hSo
   refine ⟨_,by rw [hT];exact hSl.le (hM.le Ez),Ep,hF.trans Ez,?_⟩
   obtain ⟨⟨l,e1,e2,e3⟩,hR⟩:=hD.fr hM (fun i u1 u2 u3 L h=>by have:=Ni _ _ h;cases this) Ez
   obtain ⟨⟨l',Bl,_,Pz⟩,_⟩:=hD;have hll:l=l':=by
    have:=e1.symm.trans Bl;exact (List.map_inj_right (fun x y h=>by simpa [mark] using h)).1 this
   refine ⟨⟨D::l,by rw [e1];rfl,List.nodup_cons.2 ⟨fun hin => ?_,e2⟩,fun D' P0 => ?_⟩,hR⟩
   ·rw [hll] at hin
    have:=(Em.1 (Pz D hin).1).1;omega
   ·rcases nK.1 P0 with rfl | hin
    ·refine ⟨hDm,iG hF.size Ih,fun hf => ?_⟩
     rcases hSo _ hf with h | h
     ·omega
     ·exact rP hDm rfl h
    ·exact e3 D' hin
  refine tD (F:=Fen none) (n:=3) rfl (by omega) (gf:=175) hu trivial (fun _ _=>rfl) hseq (fun h k=>h.trans k)
   (fun W l o o' hl h1 h2 h3=>⟨by simp,fun c hc=>(grownBy_putObj' W l o').block c (uK (hFl c hc) (iG hl (Nat.le_of_lt (Em.1 h1).1))) (fun e=>by cases e;have:=hFl _ hc;omega)⟩)
   (Below.refl _ _) (fun _=>rfl)
   (fun pre W=>∃ acc,itB f a0 pre = .ok acc∧pG Tp Cd Md w b (S acc).m W)
   (fun c pre W=>c = .ret∧∃ e,itB f a0 pre = .error e∧pG Tp Cd Md w b (R e).m W)
   (fun pre X Y row hs hg hr=>by
    obtain ⟨acc,h1,h2⟩:=hs;exact ⟨acc,h1,h2.own (hmp _) (hq _) hA hg hr⟩) hbl
   (fun pre A v hs=>by
    obtain ⟨acc,h1,h2⟩:=hs;exact ⟨acc,h1,h2.set hA v⟩)
   (fun c pre X Y row hs hg hr=>by
    obtain ⟨h0,e,h1,h2⟩:=hs;exact ⟨h0,e,h1,h2.own (hmpR _) (hqR _) hA hg hr⟩)
   ⟨a0,rfl,?start⟩
   (fun pre x V a' W=>a'=actOf a x∧(∃ acc,itB f a0 pre = .ok acc∧pG Tp Cd Md w b (S acc).m W)∧KpG (fun c=>C.F c∨c=b) V W∧w.heap.size≤W.heap.size)
   (fun pre x V a' s X Y row hs hg hr=>by
    obtain ⟨e1,⟨acc,h1,h2⟩,e3,e4⟩:=hs;refine ⟨e1,⟨acc,h1,h2.own (hmp _) (hq _) hA hg hr⟩,⟨iG e3.size hg.size,fun c hc => ?_⟩,iG e4 hg.size⟩
    refine (hg.block c (uK (hFl c hc) e4) (fun e => ?_)).trans (e3.same c hc)
    have:=(hr c e.symm).1;have:=hFl c hc;omega)
   ?assign ?body ?done ?stop
  case start =>
   obtain ⟨t',h0⟩:=h0;obtain ⟨C1,_,h1,h2,_⟩:=nA (C0:=Cd.with []) (M0:=Md) (w0:=gS w b w) hlk h0 (show Sim Tp (Cd.with []) Md (gS w b w) ⟨T,Md⟩ { a with defers:=[] } w from
    ⟨Cd,hSl.le (hM.le hFd),hMM,by rw [hbase];exact (Fr.refl _ _ _).based [],.nil rfl hdk⟩)
   exact ⟨C1,h1,h2.unbased⟩
  case assign =>
   intro l pre x V W K hV hI hK;subst hV;obtain ⟨acc,h1,h2⟩:=hI;have hsz:w.heap.size≤V.heap.size:=by
    obtain ⟨_,_,f2⟩:=h2;have:=f2.size;rw [cH] at this;exact this
   exact Pt a x l K _ (hK _ _ (KeepsFrom.refl _ _) ⟨rfl,⟨acc,h1,h2⟩,KpG.refl _ _,hsz⟩)
  case body =>
   rintro l pre x a' V W hl _ ⟨rfl,⟨acc,hacc,C',Ep,Ij⟩,hKV,hsz⟩ hN;have P1:=pG.nF hA Ij;have Kq:=pG.nL hA Ij;have hSW:cV C' (S acc).m W T a.tmps:=hSl.le (hM.le (back Ij));have P2:=Pu a x _ _ _ hSW;have bd:=hbody pre x acc hN hacc;have hsim:Sim Tp (C'.with []) (S acc).m W ⟨s1 T x,(S acc).m⟩ (actOf a x) W:=⟨C',P2,Ep,(Fr.refl _ _ _).based [],by rw [Pv];exact .nil rfl (hpk acc)⟩
   have keepO:∀ {M2:Mem} {W2:World} {C2:Cx},Fr C' (S acc).m W C2 M2 W2→KeepsFrom w.heap.size W W2∧KpG (fun c=>C.F c∨c=b) V W2:=fun f3=>by
    refine ⟨⟨f3.size,fun c o hc hb ho=>(f3.keep c (Em.1 hb).1 (fun id x hx hlv he => ?_)).trans hb⟩,
     hKV.trans ⟨f3.size,fun c hc=>f3.keep c (uK (hFl c hc) hsz) (fun id o ho hlv he => ?_)⟩⟩
    ·cases x with
     | row ty n cs =>
      rcases Ep.row _ _ _ _ hx with ⟨h1,_⟩ | ⟨b',arr,i,h1,h2,_⟩
      ·rw [he] at h1;cases h1
      ·rw [he] at h1;cases h1;exact rP hb ho (nS h2)
     | box ty cs =>
      obtain ⟨b',arr,h1,h2,_⟩:=Ep.box _ _ _ hx;rw [he] at h1;cases h1;exact rP hb ho (nS h2)
     | mp es cl =>
      have:=aSz (hmp acc) hA.ls Ij hx he;omega
     | pk u1 u2 u3 L=>exact absurd (hpk acc _ _ hx) (by simp [AO.isPk])
     | dead=>cases hlv
    ·rcases hc with hc | rfl
     ·exact Ep.nF _ _ _ ho hlv he ((back Ij).F1 _ hc)
     ·exact Kq _ _ ho hlv he
   have baseO:∀ {M2:Mem} {W2:World} {C2:Cx},Fr C' (S acc).m W C2 M2 W2→Fr Cd Md (gS w b W2) C2 M2 W2:=fun {M2 W2 C2} f3=>by
    have eb:(gS w b W)=(gS w b W2):=by
     have e:W2.heap[b]? = W.heap[b]? := f3.keep b (uK hbl hsz) (fun id o ho hlv he=>Kq _ _ ho hlv he)
     unfold gS;rw [Ce,Ce,e]
    rw [← eb];exact Ij.trans f3
   have hit:=aKt f pre a0 x;rw [hacc] at hit
   cases hfx:f acc x with
   | ok a2 =>
    have Jd:itB f a0 (pre++[x]) = .ok a2:=by rw [hit];exact hfx
    obtain ⟨E,g1,hc,hpE,t',Nj⟩:=bd.1 a2 hfx;refine wpIn_mono (hc (C'.with []) (S acc).m W _ W (hlen _) hsim (some l) (.inr hnrf) 1) ?_
    rintro e a3 W2 ⟨rfl,C2,Je,Gg,E1,_⟩;obtain ⟨k1,k2⟩:=keepO E1.unbased;obtain ⟨C4,_,Nk,Nl,_⟩:=nA hlk Nj (show Sim Tp (Cd.with []) Md (gS w b W2) E { a3 with defers:=[] } W2 from ⟨C2,Je,Gg,(baseO E1.unbased).based [],.nil rfl (gY hpE)⟩)
    exact ⟨k1,k2,a2,Jd,C4,Nk,Nl.unbased⟩
   | error e2 =>
    have Jd:itB f a0 (pre++[x]) = .error e2:=by rw [hit];exact hfx
    obtain ⟨E,g1,hc,hpE,t',Nj⟩:=bd.2 e2 hfx;refine wpIn_mono (hc (C'.with []) (S acc).m W _ W (hlen _) hsim (some l) (.inr hnrf) 1) ?_
    rintro e a3 W2 ⟨rfl,C2,Je,Gg,E1,_⟩;obtain ⟨k1,k2⟩:=keepO E1.unbased;obtain ⟨C4,_,Nk,Nl,_⟩:=nA hlk Nj (show Sim Tp (Cd.with []) Md (gS w b W2) E { a3 with defers:=[] } W2 from ⟨C2,Je,Gg,(baseO E1.unbased).based [],.nil rfl (gY hpE)⟩)
    exact ⟨k1,rfl,e2,Jd,C4,Nk,Nl.unbased⟩
  case done =>
   intro D xs W Ih hSx hI hDm;subst hSx;obtain ⟨acc,hacc,hI⟩:=hI;exact ⟨.normal,S acc,Pw acc hacc,rfl,fin D W _ (hST _) (hmp _) (hq _) (hpk _) Ih hI hDm⟩
  case stop =>
   rintro D c pre W Ih hSp ⟨rfl,e,hacc,hI⟩ hDm;refine wpIn_ret ?_;obtain ⟨r,hr⟩:=hSp;exact ⟨.ret,R e,Px e (by rw [← hr];exact aEm f _ _ _ hacc),rfl,fin D W _ (hRT _) (hmpR _) (hqR _) (hpkR _) Ih hI hDm⟩
 refine ⟨fun a2 hok => ?_,fun e2 her => ?_⟩
 ·intro C0 M0 w0 a w hk Cn ro hro n
  refine wpIn_mono (main (fun e An=>e = .normal∧An=S a2) (fun a h=>by rw [hok] at h;cases h;exact ⟨rfl,rfl⟩) (fun e h=>by rw [hok] at h;cases h) C0 M0 w0 a w hk Cn ro hro n) ?_
  rintro e' a' w' ⟨e,An,⟨rfl,rfl⟩,h1,h2⟩;exact ⟨h1,h2⟩
 ·intro C0 M0 w0 a w hk Cn ro hro n
  refine wpIn_mono (main (fun e An=>e = .ret∧An=R e2) (fun a h=>by rw [her] at h;cases h) (fun e h=>by rw [her] at h;cases h;exact ⟨rfl,rfl⟩) C0 M0 w0 a w hk Cn ro hro n) ?_
  rintro e' a' w' ⟨e,An,⟨rfl,rfl⟩,h1,h2⟩;exact ⟨h1,h2⟩
end KV
end Go.Proofs
end
namespace Go.Proofs
namespace KV
open Tryz
section
theorem aEk{s:List UInt8}(h:(Lib.cut s [10]).2.2=true):(Lib.cut s [10]).1.length+1+(Lib.cut s [10]).2.1.length=s.length:=by
 unfold Lib.cut at h ⊢
 split
 ·rename_i h0
  have h1:=Lib.index_room s [10] h0;simp at h1
  dsimp only;rw [uM,pD,List.length_singleton];omega
 ·rename_i h0
  rw [if_neg h0] at h
  cases h
theorem bPg(s:List UInt8):(Lib.cut s [10]).1.length≤s.length:=by
 unfold Lib.cut
 split
 ·rw [uM];omega
 ·exact Bo _
def qL:List (List UInt8 × Bool)→Nat
 | []=>0
 | x::r=>x.1.length+1+qL r
theorem aEl:∀ (l:List (List UInt8 × Bool)) (x:List UInt8 × Bool),qL (l++[x])=qL l+(x.1.length+1)
 | [],x=>by simp [qL]
 | y::l,x=>by simp only [List.cons_append,qL,aEl l x];omega
theorem wG:∀ (pre:List (List UInt8 × Bool)) (x:List UInt8 × Bool) (s:List UInt8),pre++[x] <+: cG s→(∀ y∈pre,y.2=true)→qL pre+x.1.length≤s.length
 | [],x,s,h,_=>by
  by_cases hs:s=[]
  ·subst hs;simp [jT] at h
  ·rw [eR hs] at h
   have:=(List.cons_prefix_cons.1 h).1;subst this;have:=bPg s;simp only [qL];omega
 | y::pre,x,s,h,hy=>by
  by_cases hs:s=[]
  ·subst hs;simp [jT] at h
  ·rw [eR hs] at h
   obtain ⟨h1,h2⟩:=List.cons_prefix_cons.1 (show y::(pre++[x]) <+: _::_ from h)
   subst h1;have h3:=aEk (s:=s) (hy ((Lib.cut s [10]).1,(Lib.cut s [10]).2.2) (lV ..));have h4:=wG pre x _ h2 (fun z hz=>hy z (by simp [hz]))
   simp only [qL];omega
theorem aSy:∀ l:List (List UInt8 × Bool),l.length≤qL l
 | []=>Bo _
 | x::l=>by have:=aSy l;simp only [qL,fQ];omega
end
end KV
end Go.Proofs
section
namespace Go.Proofs
open Go.RowKit
namespace KV
open Tryz
abbrev aQc(id p d ty:Nat)(pos:String):Code := .region id #[{ dst:=some d,op := .assign (.tmp p),type:=ty,pos:=pos,after := #[],guard:=none }] false
theorem bJd{l n id p d ty:Nat}{pos:String}{K:Act→World→Prop}{Q:Exit→Act→World→Prop}{a:Act}{W:World}(h:K (a.put (some d) (a.eval (.tmp p))) W):(aQc id p d ty pos).wpIn ((Fen none).inRound l) n Tp (Exit.then K Q) a W:=by
 refine wpIn_region_lit (wpListIn_plain rfl fun K' H6 => ?_)
 unfold Oper.wpIn;refine ⟨fun f _=>trivial,?_⟩
 rw [Oper.semAt_plain _ _ _ (by intro c D6;cases D6)]
 simp only [execOp,Sem.run_pure];exact H6 _ _ (wpListIn_nil h)
def aKq(p1 p2:Nat)(a:Act)(x:List UInt8 × Bool):Act:={ tmps:=(a.tmps.setIfInBounds p1 (.string ⟨x.1.toArray⟩)).setIfInBounds p2 (.bool x.2),defers:=[] }
def Hg(p1 p2 d:Nat)(a:Act)(x:List UInt8 × Bool):Act:=(aKq p1 p2 a x).put (some d) ((aKq p1 p2 a x).eval (.tmp p1))
def I9(p1 p2 d e:Nat)(a:Act)(x:List UInt8 × Bool):Act:=(Hg p1 p2 d a x).put (some e) ((Hg p1 p2 d a x).eval (.tmp p2))
theorem bSg(p1 p2:Nat)(a:Act)(x:List UInt8 × Bool):({ tmps:=(#[p1,p2].zip (aEn x)).foldl (fun t (y:Nat × Value)=>t.setIfInBounds y.1 y.2) a.tmps,defers:=[] }:Act)=aKq p1 p2 a x:=by
 unfold aEn aKq;rw [Ko]
theorem Nb{p1 p2 d id ty:Nat}{pos:String}(a:Act)(x:List UInt8 × Bool)(l:Nat)(K:Act→World→Prop)(W:World)(h:K (Hg p1 p2 d a x) W) :
  (aQc id p1 d ty pos).wpIn ((Fen none).inRound l) (3-1-1) Tp (Exit.then K (fun _ _ _=>False)) { tmps:=(#[p1,p2].zip (aEn x)).foldl (fun t (y:Nat × Value)=>t.setIfInBounds y.1 y.2) a.tmps,defers:=[] } W:=by
 rw [bSg];exact bJd h
theorem M6{p1 p2 d e id ty Pr Es:Nat}{pos Nc:String}(a:Act)(x:List UInt8 × Bool)(l:Nat)(K:Act→World→Prop)(W:World)(h:K (I9 p1 p2 d e a x) W) :
  (Code.seq (aQc id p1 d ty pos) (aQc Pr p2 e Es Nc)).wpIn ((Fen none).inRound l) (3-1-1) Tp (Exit.then K (fun _ _ _=>False)) { tmps:=(#[p1,p2].zip (aEn x)).foldl (fun t (y:Nat × Value)=>t.setIfInBounds y.1 y.2) a.tmps,defers:=[] } W:=by
 rw [bSg];exact wpIn_seq (bJd (bJd h))
def lnT(p1 p2:Nat)(T:List AV)(x:List UInt8 × Bool):List AV:=put (put T (some p1) (.p (aC x.1))) (some p2) (.p (blP x.2))
def s1T(p1 p2 d:Nat)(T:List AV)(x:List UInt8 × Bool):List AV:=put (lnT p1 p2 T x) (some d) (.p (aC x.1))
def s2T(p1 p2 d e:Nat)(T:List AV)(x:List UInt8 × Bool):List AV:=put (s1T p1 p2 d T x) (some e) (.p (blP x.2))
def pF(st:St)(p1 p2 d:Nat)(l:List UInt8)(b:Bool):St:=⟨s1T p1 p2 d st.t (l,b),st.m⟩
def kH(st:St)(p1 p2 d e:Nat)(l:List UInt8)(b:Bool):St:=⟨s2T p1 p2 d e st.t (l,b),st.m⟩
section
variable {C:Cx} {M:Mem} {W:World} {T:List AV}
theorem bJe{p1 p2:Nat}(a:Act)(x:List UInt8 × Bool)(h:cV C M W T a.tmps):cV C M W (lnT p1 p2 T x) (aKq p1 p2 a x).tmps:=by
 have s1:cV C M W (put T (some p1) (.p (aC x.1))) (({ tmps:=a.tmps,defers:=[] }:Act).put (some p1) (.string ⟨x.1.toArray⟩)).tmps:=cV.put (a:={ tmps:=a.tmps,defers:=[] }) h (.p _ _ (.v _));exact cV.put s1 (.p _ _ (.v _))
theorem aSx{p1 p2 d:Nat}(hp:∀ x,(lnT p1 p2 T x)[p1]? = some (.p (aC x.1)))(a:Act)(x:List UInt8 × Bool)(h:cV C M W T a.tmps):cV C M W (s1T p1 p2 d T x) (Hg p1 p2 d a x).tmps:=by
 have s1:=bJe (p1:=p1) (p2:=p2) a x h;exact cV.put s1 (s1.at (hp x))
theorem bPf{p1 p2 d e:Nat}(hp:∀ x,(lnT p1 p2 T x)[p1]? = some (.p (aC x.1)))(Fg:∀ x,(s1T p1 p2 d T x)[p2]? = some (.p (blP x.2)))(a:Act)(x:List UInt8 × Bool)(h:cV C M W T a.tmps):cV C M W (s2T p1 p2 d e T x) (I9 p1 p2 d e a x).tmps:=by
 have s1:=aSx (d:=d) hp a x h;exact cV.put s1 (s1.at (Fg x))
end
end KV
end Go.Proofs
end
namespace Go.Proofs
namespace KV
open Tryz
section
variable {P:Program} {T:TT} {E:Env} {C C0:Cx} {M M0 M1:Mem} {w w0:World}

def bkN(all:List Nat)(j:Nat):Option Nat:=all[j]?
def rW(Fp:List Nat):List Nat→Mem→Option Upd
 | i::r,some o::m=>match mpO (bkN Fp) o with
  | some o'=>(rW Fp r m).map ((i,o') :: ·)
  | none=>none
 | [],[]=>some []
 | _,_=>none

theorem aEp{Fp:List Nat}:∀ {ids:List Nat} {m:Mem} {L:Upd},rW Fp ids m=some L→ids.Nodup →
  m.length=ids.length ∧
  ∀ (N:Mem),(∀ (p i:Nat) (o':AO),ids[p]? = some i→(bY (upds N L) i=some o'↔∃ o,m[p]? = some (some o)∧mpO (bkN Fp) o=some o')) ∧
   ∀ j,j∉ids→bY (upds N L) j=bY N j
 | [],[],L,h,_=>by
  unfold rW at h;cases h
  refine ⟨rfl,fun N=>⟨fun p i o' hp=>by simp at hp,fun _ _=>rfl⟩⟩
 | i::r,some o::m,L,h,hd=>by
  unfold rW at h
  split at h
  ·rename_i o' ho
   simp only [Dl] at h
   obtain ⟨L',I2,rfl⟩:=h;obtain ⟨Hs,Ev⟩:=List.nodup_cons.1 hd;obtain ⟨q1,q2⟩:=aEp (ids:=r) I2 Ev;refine ⟨by simpa using q1,fun N => ?_⟩
   obtain ⟨r1,r4⟩:=q2 (aZ N i (some o'));refine ⟨fun p j o2 hp => ?_,fun j hj => ?_⟩
   ·cases p with
    | zero =>
     simp at hp;subst hp
     simp only [upds];rw [r4 i Hs,dG,if_pos rfl];constructor
     ·intro h;cases h;exact ⟨o,rfl,ho⟩
     ·rintro ⟨o3,h3,h4⟩
      simp at h3;subst h3
      rw [ho] at h4;exact h4
    | succ p =>
     simp only [upds];rw [List.getElem?_cons_succ] at hp
     rw [r1 p j o2 hp];rfl
   ·simp only [upds]
    rw [r4 j (fun e=>hj (Df _ e)),dG,if_neg (fun e=>hj (by simp [e]))]
  ·cases h
 | [],_::_,L,h,_=>by unfold rW at h;cases h
 | _::_,[],L,h,_=>by unfold rW at h;cases h
 | _::_,none::_,L,h,_=>by unfold rW at h;cases h

theorem aAz{Fp:List Nat}:∀ {ids:List Nat} {m:Mem} {L:Upd},rW Fp ids m=some L→∀ (p:Nat) (o1:AO),m[p]? = some (some o1)→∃ o',mpO (bkN Fp) o1=some o'
 | [],[],L,h,p,o1,hp=>by simp at hp
 | i::r,some o::m,L,h,p,o1,hp=>by
  unfold rW at h
  split at h
  ·rename_i hx
   simp only [Dl] at h
   obtain ⟨L',I2,_⟩:=h;cases p with
   | zero=>simp at hp;subst hp;exact ⟨_,hx⟩
   | succ p=>exact aAz I2 p o1 (by simpa using hp)
  ·cases h
 | [],_::_,L,h,_,_,_=>by unfold rW at h;cases h
 | _::_,[],L,h,_,_,_=>by unfold rW at h;cases h
 | _::_,none::_,L,h,_,_,_=>by unfold rW at h;cases h

def Cx.backN(C C1:Cx)(all:List Nat):Cx :=
 {ι:=fun j=>match idx all j 0 with | some p=>C1.ι p | none=>C.ι j
  κ:=fun j=>match idx all j 0 with | some p=>C1.κ p | none=>C.κ j
  F:=C1.F }

theorem bJj{ids news:List Nat}{r y:AV}{L:Upd}{C1:Cx}{w':World}{u:Value}(hd:distinct 0 ids=true)(hda:distinct 0 (ids++news)=true)(hb:∀ i∈news,fJ M i=true)
  (hs:rnM 0 ids (ids.map (at? M))=some M0) (hlv:∀ i∈ids,eA M i=true) (hU:rW (ids++news) (ids++news) M1=some L) (hy:mpA (bkN (ids++news)) r=some y)
  (hM:aX P C M w) (hF:Fr (C.rn 0 ids) M0 w C1 M1 w') (B6:aX P C1 M1 w') (hr:Rep C1 M1 w' r u):Fr C M w (C.backN C1 (ids++news)) (upds M L) w'∧aX P (C.backN C1 (ids++news)) (upds M L) w'∧Rep (C.backN C1 (ids++news)) (upds M L) w' y u:=by
 obtain ⟨_,hnd⟩:=gP hd;obtain ⟨_,hna⟩:=gP hda;obtain ⟨Hv,hmp,hsrc⟩:=pK (k:=0) hM hd hs;have hlen:M0.length=ids.length:=by have:=(yO hs).1;simpa using this
 generalize hall:ids++news=all at *
 obtain ⟨Ak,hup⟩:=aEp hU hna;obtain ⟨u1,u4⟩:=hup M;have hL:=Hv.le hF;have inA:∀ (p i:Nat),ids[p]? = some i→all[p]? = some i:=fun p i h=>by
  rw [← hall,aNq (Cq.1 h).1];exact h
 have memA:∀ i,i∈all↔i∈ids∨i∈news:=fun i=>by rw [← hall];simp
 have newF:∀ (p i:Nat),all[p]? = some i→i∉ids→fJ M i=true:=fun p i h hn=>by
  rcases (memA i).1 (Ci h) with h | h
  ·exact absurd h hn
  ·exact hb i h
 have oldP:∀ (p i:Nat),all[p]? = some i→i∈ids→ids[p]? = some i:=fun p i h hn=>by
  obtain ⟨q,hq,he⟩:=List.mem_iff_getElem.1 hn;have h2:ids[q]? = some i:=by rw [Ch hq,he]
  have e1:=oJ hna 0 h;have e2:=oJ hna 0 (inA q i h2);rw [e1] at e2
  have:p=q:=by simpa using e2
  rw [this];exact h2
 have rnp:∀ p i,ids[p]? = some i→rnI 0 ids i=some p:=fun p i h=>by
  have:=oJ hnd 0 h;unfold rnI;rw [show Nat.blt i 0=false from rfl,this,jJ]
 have Cu:∀ p i,ids[p]? = some i→∃ o o0,M[i]? = some (some o)∧o.live=true∧M0[p]? = some (some o0)∧o0.live=true∧(C.rn 0 ids).ι p=C.ι i∧(C.rn 0 ids).κ p=C.κ i:=fun p i hp=>by
  obtain ⟨o,h1,h2⟩:=dP (hlv i (Ci hp));obtain ⟨o0,h3,h4⟩:=hmp.fw _ _ _ (rnp p i hp) h1;exact ⟨o,o0,h1,h2,h3,by rw [bR h4];exact h2,hmp.at_ _ _ (rnp p i hp)⟩
 have sh_of:∀ (p:Nat) (o0:AO),M0[p]? = some (some o0)→∃ i o,ids[p]? = some i∧M[i]? = some (some o)∧o.live=true∧o0.live=true∧(C.rn 0 ids).ι p=C.ι i:=fun p o0 hp=>by
  obtain ⟨hl,_⟩:=Cq.1 hp;have Kb:ids[p]? = some ids[p]:=Ch (by omega)
  obtain ⟨o,o1,h1,h2,h3,h4,h5,_⟩:=Cu p _ Kb;rw [hp] at h3;cases h3
  exact ⟨_,o,Kb,h1,h2,h4,h5⟩
 have apart:∀ (j:Nat) (o:AO) (b:Nat),j∉ids→M[j]? = some (some o)→o.live=true→C.ι j=some b→w'.heap[b]? = w.heap[b]? ∧ ¬ C1.F b∧∀ (p:Nat) (o1:AO),M1[p]? = some (some o1)→o1.live=true→C1.ι p≠some b:=fun j o b hj h1 h2 h3=>by
  have Dq:=hM.lt j o b h1 h2 h3;have I3:∀ (p:Nat) (o0:AO),M0[p]? = some (some o0)→o0.live=true→(C.rn 0 ids).ι p≠some b:=fun p o0 hp _ he=>by
   obtain ⟨i,o2,q1,q2,q3,_,q4⟩:=sh_of p o0 hp;rw [q4] at he
   have:=hM.inj j i o o2 b h1 h2 q2 q3 h3 he;subst this;exact hj (Ci q1)
  refine ⟨hF.keep b Dq I3,fun hf => ?_,fun p o1 hp hl he => ?_⟩
  ·rcases hF.F2 b hf with q | q | ⟨p,o0,q1,q2,q3⟩
   ·exact hM.nF j o b h1 h2 h3 q
   ·omega
   ·exact I3 p o0 q1 q2 q3
  ·rcases hF.new p o1 b hp hl he with q | ⟨p0,o0,q1,q2,q3⟩
   ·omega
   ·exact I3 p0 o0 q1 q2 q3
 have ix:∀ j,(j∈all→∃ p,idx all j 0=some p∧all[p]? = some j)∧(j∉all→idx all j 0=none):=fun j=>by
  refine ⟨fun hj => ?_,fun hj => ?_⟩
  ·obtain ⟨p,hp,he⟩:=List.mem_iff_getElem.1 hj
   have:all[p]? = some j:=by rw [Ch hp,he]
   exact ⟨p,by simpa using oJ hna 0 this,this⟩
  ·cases h1:idx all j 0 with
   | none=>rfl
   | some p =>
    obtain ⟨_,h2⟩:=tI _ _ _ _ h1;exact absurd (Ci h2) hj
 have cls:∀ (j:Nat) (o':AO),(upds M L)[j]? = some (some o')→(∃ p o1,all[p]? = some j∧M1[p]? = some (some o1)∧mpO (bkN all) o1=some o'∧(C.backN C1 all).ι j=C1.ι p∧(C.backN C1 all).κ j=C1.κ p) ∨
   (j∉ids∧j∉all∧M[j]? = some (some o')∧(C.backN C1 all).ι j=C.ι j∧(C.backN C1 all).κ j=C.κ j):=fun j o' hj=>by
  rw [← bL] at hj
  by_cases hm:j∈all
  ·obtain ⟨p,Fx,Fg⟩:=(ix j).1 hm
   obtain ⟨o1,h1,h2⟩:=(u1 p j o' Fg).1 hj;exact .inl ⟨p,o1,Fg,h1,h2,by simp [Cx.backN,Fx],by simp [Cx.backN,Fx]⟩
  ·have hn:=(ix j).2 hm
   rw [u4 j hm] at hj
   exact .inr ⟨fun h=>hm ((memA j).2 (.inl h)),hm,bL.1 hj,by simp [Cx.backN,hn],by simp [Cx.backN,hn]⟩
 have E1:Fr C M w (C.backN C1 all) (upds M L) w':=by
  refine ⟨hF.os,hF.tape,hF.out,hF.size,fun b Dq hn => ?_,fun i o ho => ?_,fun i o ho ty n cs hx => ?_,fun i o ho o' hx hl => ?_,fun j o b hj hl hjb => ?_,fun b hb=>hF.F1 b hb,fun b hb => ?_⟩
  ·exact hF.keep b Dq fun p o0 hp hl he=>by
    obtain ⟨i,o2,q1,q2,q3,_,q4⟩:=sh_of p o0 hp;rw [q4] at he
    exact hn i o2 q2 q3 he
  ·by_cases hm:i∈all
   ·obtain ⟨p,Fx,Fg⟩:=(ix i).1 hm
    have hmi:i∈ids:=Classical.byContradiction fun hni=>cZ (newF p i Fg hni) o ho
    obtain ⟨_,o0,_,_,h3,h4,h5,h6⟩:=Cu p i (oldP p i Fg hmi);obtain ⟨⟨o1,q1⟩,q2,q3⟩:=hF.ids p o0 h3;refine ⟨?_,by simp only [Cx.backN,Fx];rw [q2,h5],by simp only [Cx.backN,Fx];rw [q3,h6]⟩
    obtain ⟨o',hq⟩:=aAz hU p o1 q1;exact ⟨o',bL.1 ((u1 p i o' Fg).2 ⟨o1,q1,hq⟩)⟩
   ·refine ⟨⟨o,bL.1 (by rw [u4 i hm];exact bL.2 ho)⟩,by simp [Cx.backN,(ix i).2 hm],by simp [Cx.backN,(ix i).2 hm]⟩
  ·rcases cls i _ hx with ⟨p,o1,q1,q2,q3,_⟩ | ⟨_,_,q3,_⟩
   ·have hmi:i∈ids:=Classical.byContradiction fun hni=>cZ (newF p i q1 hni) o ho
    have q1:=oldP p i q1 hmi;rw [jX q3] at q2
    obtain ⟨o2,o0,h1,_,h3,_⟩:=Cu p i q1;obtain ⟨Bs,h5⟩:=hF.row p o0 h3 _ _ _ q2;obtain ⟨o4,h6,h7⟩:=hmp.bk _ _ _ (rnp p i q1) h5;rw [jX h7] at h6
    exact ⟨Bs,h6⟩
   ·exact ⟨cs,q3⟩
  ·rcases cls i _ hx with ⟨p,o1,q1,q2,q3,_⟩ | ⟨_,_,q3,_⟩
   ·have hmi:i∈ids:=Classical.byContradiction fun hni=>cZ (newF p i q1 hni) o ho
    obtain ⟨o2,o0,h1,h2,h3,_⟩:=Cu p i (oldP p i q1 hmi);rw [ho] at h1;cases h1
    exact h2
   ·rw [ho] at q3;cases q3;exact hl
  ·have fin:∀ (p:Nat) (o1:AO),M1[p]? = some (some o1)→o1.live=true→C1.ι p=some b→w.heap.size≤b∨∃ (Ej:Nat) (o0:AO),M[Ej]? = some (some o0)∧o0.live=true∧C.ι Ej=some b:=fun p o1 h1 h2 h3=>by
    rcases hF.new p o1 b h1 h2 h3 with q | ⟨p0,o0,q1,q2,q3⟩
    ·exact .inl q
    ·obtain ⟨i,o2,r1,r2,r3,_,r4⟩:=sh_of p0 o0 q1
     rw [r4] at q3
     exact .inr ⟨i,o2,r2,r3,q3⟩
   rcases cls j _ hj with ⟨p,o1,q1,q2,q3,q4,_⟩ | ⟨_,_,q3,q4,_⟩
   ·rw [q4] at hjb
    exact fin p o1 q2 (by rw [← bR q3];exact hl) hjb
   ·rw [q4] at hjb
    exact .inr ⟨j,o,q3,hl,hjb⟩
  ·rcases hF.F2 b hb with q | q | ⟨p,o0,q1,q2,q3⟩
   ·exact .inl q
   ·exact .inr (.inl q)
   ·obtain ⟨i,o2,r1,r2,r3,_,r4⟩:=sh_of p o0 q1
    rw [r4] at q3
    exact .inr (.inr ⟨i,o2,r2,r3,q3⟩)
 have G7:=hM.le E1;have hbk:aUj (bkN all) C1 (C.backN C1 all) M1 (upds M L):=by
  refine ⟨fun i j o' hij hj=>(u1 i j o' hij).1 (bL.2 hj),fun i j o hij hi => ?_,fun i j hij => ?_,fun _ h=>h⟩
  ·obtain ⟨o',hq⟩:=aAz hU i o hi
   exact ⟨o',bL.1 ((u1 i j o' hij).2 ⟨o,hi,hq⟩),hq⟩
  ·have:=oJ hna 0 hij
   rw [jJ] at this
   simp [Cx.backN,this]
 refine ⟨E1,⟨fun j ty n cs h => ?_,fun j ty cs h => ?_,fun j es cl h => ?_,fun j j' o1 o2 b q1 l1 q2 l2 e1 e2 => ?_,fun j o b h hl hb => ?_,B6.Fs,fun j o b h hl hb => ?_,B6.lib.mono (fun _ h=>h) fun _ _=>rfl⟩,rA hbk hr hy⟩
 ·rcases cls j _ h with ⟨p,o1,q1,q2,q3,q4,q5⟩ | ⟨q1,_,q3,q4,q5⟩
  ·rw [jX q3] at q2
   rw [q4,q5];exact B6.row _ _ _ _ q2
  ·rw [q4,q5]
   rcases hM.row _ _ _ _ q3 with q | ⟨b,arr,inf,p0,p1,p2,p3,p4,p5,p6,p7,p8⟩
   ·exact .inl q
   ·exact .inr ⟨b,arr,inf,p0,by rw [(apart j _ b q1 q3 rfl p0).1];exact p1,p2,p3,p4,p5,p6,fun i hi=>(p7 i hi).mono G7.F G7.fz,p8⟩
 ·rcases cls j _ h with ⟨p,o1,q1,q2,q3,q4,q5⟩ | ⟨q1,_,q3,q4,q5⟩
  ·cases o1 with
   | box Dh l =>
    simp only [mpO,Dl] at q3
    obtain ⟨l',Dt,e⟩:=q3;cases e;obtain ⟨b,arr,p0,p1,p2,p3,p4⟩:=B6.box _ _ _ q2;obtain ⟨n1,n2⟩:=fC hbk (w:=w') (us:=fun j=>arr.getD j undef) p3 Dt
    exact ⟨b,arr,by rw [q4];exact p0,p1,by omega,n2,fun j hj=>p4 j (by omega)⟩
   | row=>simp [mpO] at q3
   | mp=>simp [mpO] at q3
   | pk=>simp [mpO] at q3
   | dead=>simp [mpO] at q3
  ·obtain ⟨b,arr,p0,p1,p2,p3,p4⟩:=hM.box _ _ _ q3
   exact ⟨b,arr,by rw [q4];exact p0,by rw [(apart j _ b q1 q3 rfl p0).1];exact p1,p2,fun i hi=>(p3 i hi).mono G7,p4⟩
 ·rcases cls j _ h with ⟨p,o1,q1,q2,q3,q4,q5⟩ | ⟨q1,_,q3,q4,q5⟩
  ·cases o1 with
   | mp Fh Jv =>
    simp only [mpO,Option.some.injEq] at q3
    cases q3;obtain ⟨b,arr,p0,p1,p2,p3⟩:=B6.mp _ _ _ q2;refine ⟨b,arr,by rw [q4];exact p0,p1,p2,fun j hj => ?_⟩
    obtain ⟨en,s1,s2,s3,s4⟩:=p3 j hj;exact ⟨en,s1,s2,s3,s4.mono hbk.F (fun _ _=>rfl)⟩
   | row=>simp [mpO] at q3
   | box=>simp [mpO] at q3
   | pk=>simp [mpO] at q3
   | dead=>simp [mpO] at q3
  ·obtain ⟨b,arr,p0,p1,p2,p3⟩:=hM.mp _ _ _ q3
   refine ⟨b,arr,by rw [q4];exact p0,by rw [(apart j _ b q1 q3 rfl p0).1];exact p1,p2,fun i hi => ?_⟩
   obtain ⟨en,s1,s2,s3,s4⟩:=p3 i hi;exact ⟨en,s1,s2,s3,s4.mono G7.F G7.fz⟩
 ·rcases cls j _ q1 with ⟨p,a1,r1,r2,r3,r4,_⟩ | ⟨r1,rb,r3,r4,_⟩ <;> rcases cls j' _ q2 with ⟨p',a2,t1,t2,t3,t4,_⟩ | ⟨t1,tb,t3,t4,_⟩
  all_goals (rw [r4] at e1;rw [t4] at e2)
  ·have:=B6.inj p p' a1 a2 b r2 (by rw [← bR r3];exact l1) t2 (by rw [← bR t3];exact l2) e1 e2
   subst this;rw [r1] at t1;cases t1;rfl
  ·exact absurd e1 ((apart j' o2 b t1 t3 l2 e2).2.2 p a1 r2 (by rw [← bR r3];exact l1))
  ·exact absurd e2 ((apart j o1 b r1 r3 l1 e1).2.2 p' a2 t2 (by rw [← bR t3];exact l2))
  ·exact hM.inj j j' o1 o2 b r3 l1 t3 l2 e1 e2
 ·rcases cls j _ h with ⟨p,o1,q1,q2,q3,q4,q5⟩ | ⟨q1,_,q3,q4,q5⟩
  ·rw [q4] at hb
   exact B6.nF _ _ b q2 (by rw [← bR q3];exact hl) hb
  ·rw [q4] at hb
   exact (apart j o b q1 q3 hl hb).2.1
 ·rcases cls j _ h with ⟨p,o1,q1,q2,q3,q4,q5⟩ | ⟨q1,_,q3,q4,q5⟩
  ·rw [q4] at hb
   exact B6.lt _ _ b q2 (by rw [← bR q3];exact hl) hb
  ·rw [q4] at hb
   exact uK (hM.lt j o b q3 hl hb) hF.size

def aQf(ids news:List Nat)(args:List AV)(bs:Upd)(M1:Mem)(r:AV):Option (List AV × Mem × AV × Upd):=match distinct 0 ids && distinct 0 (ids++news) && ids.all (eA (upds [] bs)) with
 | true=>match rnM 0 ids (ids.map (at? (upds [] bs))) with
  | some M0=>match rnL 0 ids args with
   | some Bg=>match rW (ids++news) (ids++news) M1 with
    | some L=>match mpA (bkN (ids++news)) r with
     | some y=>some (Bg,M0,y,L)
     | none=>none
    | none=>none
   | none=>none
  | none=>none
 | false=>none
theorem FMM.fcN{f base k:Nat}(hk:Nat.ble k 8=true){ids:List Nat}{args Bg:List AV}{bs:Upd}{r y:AV}{L:Upd}(h:FMM P f Bg M0 r M1)(hs:aQf ids ((List.range k).map (base + ·)) args bs M1 r=some (Bg,M0,y,L)):FC P f args bs base y L:=fun M hb hf Hy=>by
 unfold aQf at hs
 have hsub:aNu (upds [] bs) M:=fun id o ho=>by
  rcases pW bs [] id o ho with h5 | h5
  ·exact hb _ h5
  ·simp [bY] at h5
 split at hs
 ·rename_i hd
  rw [Cj,Cj,jI] at hd
  obtain ⟨⟨Hs,Ev⟩,Nn⟩:=hd;have hlv:∀ i∈ids,∃ o,bY (upds [] bs) i=some o∧bY M i=some o∧o.live=true:=fun i hi=>by
   obtain ⟨o,h1,h2⟩:=dP (Nn i hi);exact ⟨o,bL.2 h1,hsub _ _ (bL.2 h1),h2⟩
  split at hs
  ·rename_i h1
   split at hs
   ·rename_i h2
    split at hs
    ·rename_i h3
     split at hs
     ·rename_i h4
      cases hs;have he:ids.map (at? M)=ids.map (at? (upds [] bs)):=bGe fun i hi=>by
       obtain ⟨o,q1,q2,_⟩:=hlv i hi;unfold at?
       rw [q1,q2]
      intro C w us hus hM n;have G3:rnM 0 ids (ids.map (at? M))=some M0:=by rw [he];exact h1
      obtain ⟨Hv,hmp,_⟩:=pK (k:=0) hM Hs G3;refine (h (C.rn 0 ids) w us (aGj hmp hus h2) Hv n).mono ?_;rintro e w' ⟨u,rfl,C1,hF,B6,hr⟩;exact ⟨u,rfl,C.backN C1 (ids++(List.range k).map (base + ·)),bJj Hs Ev (fun i hi=>by
       obtain ⟨j,hj,rfl⟩:=uN.1 hi;have hj:=aVz.1 hj;have hk:=Nat.le_of_ble_eq_true hk;exact Hy j (by omega)) G3 (fun i hi=>by
       obtain ⟨o,_,q2,q3⟩:=hlv i hi;exact gV (bL.1 q2) q3) h3 h4 hM hF B6 hr⟩
     ·cases hs
    ·cases hs
   ·cases hs
  ·cases hs
 ·cases hs
def qF(ids:List Nat)(base:Nat):=bkN (ids++(List.range 7).map (base+·))
def qN(ids:List Nat)(base:Nat)(x:AV):AV:=(mpA (qF ids base) x).getD .any
theorem mN(ids:List Nat)(base:Nat){P:Program}{f:Nat}{Bg:List AV}{M0 M1:Mem}{r:AV}(h:FMM P f Bg M0 r M1)(hs:aQf ids ((List.range 7).map (base+·)) (Bg.map (qN ids base)) (qS ids (qF ids base) (Bg.map (qN ids base)) M0) M1 r=some (Bg,M0,qN ids base r,(rW (ids++(List.range 7).map (base+·)) (ids++(List.range 7).map (base+·)) M1).getD []):=by kernel_rfl):FC P f (Bg.map (qN ids base)) (qS ids (qF ids base) (Bg.map (qN ids base)) M0) base (qN ids base r) ((rW (ids++(List.range 7).map (base+·)) (ids++(List.range 7).map (base+·)) M1).getD []):=FMM.fcN (k:=7) rfl h hs
end
section
def bX(st:St)(id:Nat)(o:Option AO):St:=⟨st.t,st.m.set id o⟩
mutual
def wkP:PV→PV
 | .v (.slice none 0 0) => .sl 0 []
 | .agg cs => .agg (bJk cs)
 | x=>x
def bJk:List PV→List PV
 | []=>[]
 | x::r=>wkP x::bJk r
end
theorem aKw:∀ l:List PV,bJk l=l.map wkP
 | []=>by simp [bJk]
 | x::r=>by rw [bJk,aKw r];rfl
def Ks:AV→AV
 | .p x => .p (wkP x)
 | x=>x
theorem aTa{F:Nat→Prop}{w:World}{x:PV}{u:Value}(h:cW F w x u):cW F w (wkP x) u:=by
 induction h with
 | v x =>
  unfold wkP
  split
  ·rename_i e
   cases e;exact .sl 0 [] none 0 (fun _=>undef) (Bo _) (Nat.zero_le _) (fun i h=>by simp at h) (fun i h=>by simp at h) (fun i h=>by simp at h)
  ·rename_i e;cases e
  ·exact .v x
 | sl n cs p cap us h1 h2 h3 h4 h5 _=>unfold wkP;exact .sl n cs p cap us h1 h2 h3 h4 h5
 | agg cs vs h0 h1 _ ih =>
  unfold wkP;rw [aKw];exact .agg _ vs (fun i hi=>h0 i (by simpa using hi)) (by simpa using h1) (fun i hi=>by
   have:=ih i (by simpa using hi)
   simpa using this)
 | mp es b cl arr us hb h0 h1 h2 h3 _=>unfold wkP;exact .mp es b cl arr us hb h0 h1 h2 h3
 | rp cs off b o us h1 h2 h3 _=>unfold wkP;exact .rp cs off b o us h1 h2 h3
 | fn f cs ds us vs h1 h2 h3 h4 _ _=>unfold wkP;exact .fn f cs ds us vs h1 h2 h3 h4
theorem aGx{C:Cx}{M:Mem}{w:World}{x:AV}{u:Value}(h:Rep C M w x u):Rep C M w (Ks x) u:=by
 cases h with
 | p x u h=>exact .p _ _ (aTa h)
 | _=>unfold Ks;constructor <;> assumption
theorem FMM.wk{P:Program}{f:Nat}{args l l':List AV}{M M':Mem}(h:FMM P f args M (.tup l) M')(e:l.map Ks=l'):FMM P f args M (.tup l') M':=fun C w us hus hM n=>by
 subst e;refine (h C w us hus hM n).mono ?_;rintro e w' ⟨u,rfl,C',hF,Ep,hr⟩;refine ⟨u,rfl,C',hF,Ep,?_⟩;cases hr with
 | tup _ vs h1 h2=>exact .tup _ vs (by simpa using h1) (fun i hi=>by
   have Dr:i<l.length:=by simpa using hi
   simpa using aGx (h2 i Dr))
end
section
variable {dn xb Hd:Bool}{e f k l kd my Gk Gl Dy Gw:Int}{n bf nr Ir D7 Ja Ef:Nat}

noncomputable abbrev fM:Code:=sub (cd Tryz.f15) [1,1,1,1,0,1,0,1]
noncomputable abbrev bJa:Code:=sub (cd Tryz.f15) [1,1,1,1,0,1,0]
theorem aSw:((0:Int) != 0)=false:=by first | decide | simp
theorem bJb:((11:Int) != 0)=true:=by first | decide | simp
theorem aGw{s:List UInt8}:FMM Tp 88 [(.p (aC s))] [] (.fn 175 [] [(.ptr 0 0)]) [some (.box 9 [(.p (aC s))])]:=FMM.fi 0 ⟨[],[0],[],[]⟩ func88 [] gn
theorem cAx(fs:List (List UInt8))(ln k:Int)(R:List (List Cel))(he:(hdM fs).2.2.2≠0):FMM Tp 90 [.ptr 0 0,.p (.sl fs.length ((fs.map stE).flatten)),.fn 176 [] [.ptr 2 0,.ptr 3 0]] [some (.box 158 [(pI k),(.own 1),(pI 0),(pI 0),(pI 0)]),some (.row 78 R.length ((R.map rwE).flatten)),some (.box 156 [(.ptr 0 0)]),some (.box 3 [(pI ln)])] (.p (aB (hdM fs).2.1)) [some (.box 158 [(pI (Di (hdM fs).1)),(.own 1),(pI ln),(pI ((hdM fs).2.2.1)),(pI ((hdM fs).2.2.2))]),some (.row 78 R.length ((R.map rwE).flatten)),some (.box 156 [(.ptr 0 0)]),some (.box 3 [(pI ln)])]:=by
 have:=bIv fs ln k 0 0 R;rw [E0 ln _ 0 0 he] at this
 exact this
theorem cAy(fs:List (List UInt8))(ln k:Int)(R:List (List Cel))(he:(hdM fs).2.2.2=0):FMM Tp 90 [.ptr 0 0,.p (.sl fs.length ((fs.map stE).flatten)),.fn 176 [] [.ptr 2 0,.ptr 3 0]] [some (.box 158 [(pI k),(.own 1),(pI 0),(pI 0),(pI 0)]),some (.row 78 R.length ((R.map rwE).flatten)),some (.box 156 [(.ptr 0 0)]),some (.box 3 [(pI ln)])] (.p (aB (hdM fs).2.1)) [some (.box 158 [(pI (Di (hdM fs).1)),(.own 1),(pI 0),(pI 0),(pI 0)]),some (.row 78 R.length ((R.map rwE).flatten)),some (.box 156 [(.ptr 0 0)]),some (.box 3 [(pI ln)])]:=by
 have:=bIv fs ln k 0 0 R;rw [he,Iq] at this
 exact this
theorem cAz(fs:List (List UInt8))(sm ln k:Int)(R:List (List Cel))(h0:0<fs.length)(he:(lsM fs sm).2≠0):FMM Tp 93 [.p (.sl fs.length ((fs.map stE).flatten)),.p (aB sm),.fn 176 [] [.ptr 0 0,.ptr 1 0]] [some (.box 156 [(.ptr 2 0)]),some (.box 3 [(pI ln)]),some (.box 158 [(pI k),(.own 3),(pI 0),(pI 0),(pI 0)]),some (.row 78 R.length ((R.map rwE).flatten))] (.tup []) [some (.box 156 [(.ptr 2 0)]),some (.box 3 [(pI ln)]),some (.box 158 [(pI k),(.own 3),(pI ln),(pI ((lsM fs sm).1)),(pI ((lsM fs sm).2))]),some (.row 78 R.length ((R.map rwE).flatten))]:=by
 have:=bIe fs sm ln k 0 0 R h0;rw [E0 ln _ 0 0 he] at this
 exact this
theorem cBa(fs:List (List UInt8))(sm ln k:Int)(R:List (List Cel))(h0:0<fs.length)(he:(lsM fs sm).2=0):FMM Tp 93 [.p (.sl fs.length ((fs.map stE).flatten)),.p (aB sm),.fn 176 [] [.ptr 0 0,.ptr 1 0]] [some (.box 156 [(.ptr 2 0)]),some (.box 3 [(pI ln)]),some (.box 158 [(pI k),(.own 3),(pI 0),(pI 0),(pI 0)]),some (.row 78 R.length ((R.map rwE).flatten))] (.tup []) [some (.box 156 [(.ptr 2 0)]),some (.box 3 [(pI ln)]),some (.box 158 [(pI k),(.own 3),(pI 0),(pI 0),(pI 0)]),some (.row 78 R.length ((R.map rwE).flatten))]:=by
 have:=bIe fs sm ln k 0 0 R h0;rw [he,Iq] at this
 exact this
theorem aPy{n:Int}(k:Int)(r t:List Cel)(h:aN k≤(r.length:Int))(h2:aN k≤(t.length:Int))(hn:bV k r t=n){base:Nat}:FV Tp 92 [.p (aB k),.p (.sl r.length ((r.map cE).flatten)),.p (.sl t.length ((t.map cE).flatten))] base (pI n) []:=hn ▸ mQ k r t h h2
theorem kT{cs:List PV}(h0:e≠0):FMM Tp 94 [(.ptr 0 0)] [some (.box 158 [(pI k),(.own 1),(pI l),(pI f),(pI e)]),some (.row 78 n cs)] (.tup [(.p (.agg [(aB 0),bM])),(pI l),(pI f),(pI e)]) [some (.box 158 [(pI k),(.own 1),(pI l),(pI f),(pI e)]),some (.row 78 n cs)]:=FMM.fi 2 gE func94 [bT] (gc (cL h0) gn)
theorem bJc{cs:List PV}(h0:e=0):FMM Tp 94 [(.ptr 0 0)] [some (.box 158 [(pI k),(.own 1),(pI l),(pI f),(pI e)]),some (.row 78 n cs)] (.tup [(.agg [(pI k),(.own 1)]),(pI 0),(pI 0),(pI 0)]) [some (.box 158 [(pI k),(.own 1),(pI l),(pI f),(pI e)]),some (.row 78 n cs)]:=FMM.fi 2 gE func94 [bF] (gc (bD h0) gn)
def bU(s:List UInt8)(nr:Nat)(my:Int)(bf:Nat)(dn:Bool)(kd:Int)(Rn:Nat)(Rc:List PV):St:=⟨fr 149 [(1,(.ptr 0 0)),(2,(.ptr 1 0)),(3,(.ptr 2 0)),(4,(.ptr 3 0)),(5,(.ptr 4 0)),(6,(.ptr 6 0)),(7,(.ptr 7 0)),(8,(.ptr 8 0)),(9,(.ptr 9 0)),(10,(.ptr 10 0)),(24,(.ptr 5 0)),(26,(.fn 175 [] [(.ptr 11 0)]))],[some (.box 9 [(.p (aC s))]),some (.box 26 [(pI 0),(.p bM)]),some (.box 3 [(pI 0)]),some (.box 3 [(pI 0)]),some (.box 27 [(pI 0)]),some (.box 158 [(pI kd),(.own 12),(pI 0),(pI 0),(pI 0)]),some (.box 156 [(.ptr 5 0)]),some (.box 3 [(pI (nr:Int))]),some (.box 3 [(pI my)]),some (.box 3 [(pI (bf:Int))]),some (.box 4 [(pB dn)]),some .dead,some (.row 78 Rn Rc)]⟩
def qK(s:List UInt8):St:=⟨fr 149 [(1,(.ptr 0 0)),(2,(.ptr 1 0)),(3,(.ptr 2 0)),(4,(.ptr 3 0)),(5,(.ptr 4 0)),(6,(.ptr 6 0)),(7,(.ptr 7 0)),(8,(.ptr 8 0)),(9,(.ptr 9 0)),(10,(.ptr 10 0)),(24,(.ptr 5 0)),(26,(.fn 175 [] [(.ptr 11 0)]))],[some (.box 9 [(.p (aC s))]),some (.box 26 [(pI 0),(.p bM)]),some (.box 3 [(pI 0)]),some (.box 3 [(pI 0)]),some (.box 27 [(pI 0)]),some (.box 158 [(pI 0),(.p bM),(pI 0),(pI 0),(pI 0)]),some (.box 156 [(.ptr 5 0)]),some (.box 3 [(pI 0)]),some (.box 3 [(pI 0)]),some (.box 3 [(pI 0)]),some (.box 4 [(.kb false)]),some (.box 9 [(.p (aC s))])]⟩
theorem cBb{s:List UInt8}(h0:(65536:Int)<(s.length:Int)):FMM Tp 15 [(.p (aC s))] [] (.tup [(.p (.agg [(aB 0),bM])),(pI 0),(pI 0),(pI 10)]) []:=FMM.fi 0 gE func15 [bT] (g0 h0)
section
variable{s:List UInt8}{R'5:List (List Cel)}(h0:(s.length:Int)≤65536)(Ak:aA Tp 0 bJa (qK s) .normal (bU s Ef Gw Ja Hd Dy R'5.length ((R'5.map rwE).flatten)))
include h0 Ak
theorem cBc{r0:Int}(h2:Hd=false)(h3:inR (((Ef+1):Nat):Int))(Ao:r0=(((Ef+1):Nat):Int)):FMM Tp 15 [(.p (aC s))] [] (.tup [(.p (.agg [(aB 0),bM])),(pI r0),(pI 1),(pI 11)]) []:=by
 subst Ao;have k1:=mq [13,14,5,12] 15 (cU 1 11 (((Ef+1):Nat):Int) Dy 0 0 0 R'5);have k2:=mq [5,12] 15 (kT (k:=Dy) (l:=(((Ef+1):Nat):Int)) (f:=(1:Int)) (e:=(11:Int)) (n:=R'5.length) (cs:=((R'5.map rwE).flatten)) (by decide));exact FMM.fi 0 gE func15 [bF,.c (.fn 175 [] [(.ptr 11 0)]) [(11,(.box 9 [(.p (aC s))]))],Ak.k 1 ⟨(rng [(0,1),(11,13),(25,1),(27,109),(142,1)]),(rng [(0,12)]),[],[]⟩,bT,.c (.fn 176 [] [(.ptr 13 0),(.ptr 14 0)]) [(5,(.box 158 [(pI Dy),(.own 12),(pI 0),(pI 0),(pI 0)])),(12,(.row 78 R'5.length ((R'5.map rwE).flatten))),(13,(.box 156 [(.ptr 5 0)])),(14,(.box 3 [(pI (((Ef+1):Nat):Int))]))],k1.o,k2.o] (gc k2 (gc k1 (gt (FC Tp 89 [(.ptr 5 0),(pI (((Ef+1):Nat):Int))] [(5,(.box 158 [(pI Dy),(.own 12),(pI 0),(pI 0),(pI 0)])),(12,(.row 78 R'5.length ((R'5.map rwE).flatten)))] 13 (.fn 176 [] [(.ptr 13 0),(.ptr 14 0)]) [(5,(.box 158 [(pI Dy),(.own 12),(pI 0),(pI 0),(pI 0)])),(12,(.row 78 R'5.length ((R'5.map rwE).flatten))),(13,(.box 156 [(.ptr 5 0)])),(14,(.box 3 [(pI (((Ef+1):Nat):Int))]))]) (FMM.fcN (k:=2) rfl (ids:=[5,12]) (fI (ln:=(((Ef+1):Nat):Int)) (k:=Dy) (l:=(0:Int)) (f:=(0:Int)) (e:=(0:Int)) (R:=R'5)) (by kernel_rfl)) (gc h3 (gc (cN h2) (gc Ak (gt (FC Tp 88 [(.p (aC s))] [] 11 (.fn 175 [] [(.ptr 11 0)]) [(11,(.box 9 [(.p (aC s))]))]) (FMM.fcN (k:=1) rfl (ids:=[]) (aGw (s:=s)) (by kernel_rfl)) (gc (aJ h0) gn))))))))
theorem cBd(h2:Hd=true):FMM Tp 15 [(.p (aC s))] [] (.tup [(.p (.agg [(aB Dy),(.sl R'5.length ((R'5.map rwE).flatten))])),(pI 0),(pI 0),(pI 0)]) []:=have k1:=mq [5,12] 13 (bJc (k:=Dy) (l:=(0:Int)) (f:=(0:Int)) (e:=0) (n:=R'5.length) (cs:=((R'5.map rwE).flatten)) rfl);FMM.fi 0 ⟨[],[],[12],[]⟩ func15 [bF,.c (.fn 175 [] [(.ptr 11 0)]) [(11,(.box 9 [(.p (aC s))]))],Ak.k 1 ⟨(rng [(0,1),(11,13),(25,1),(27,109),(142,1)]),(rng [(0,12)]),[],[]⟩,bF,k1.o] (gc k1 (gc (aO h2) (gc Ak (gt (FC Tp 88 [(.p (aC s))] [] 11 (.fn 175 [] [(.ptr 11 0)]) [(11,(.box 9 [(.p (aC s))]))]) (FMM.fcN (k:=1) rfl (ids:=[]) (aGw (s:=s)) (by kernel_rfl)) (gc (aJ h0) gn)))))
end
theorem cBe{s:List UInt8}{R'5:List (List Cel)}{M7 M8 M9:Int}(h0:(s.length:Int)≤65536)(Ak:aA Tp 0 bJa (qK s) .ret (bX (bX (bX (bX (bU s Ef Gw Ja Hd Dy R'5.length ((R'5.map rwE).flatten)) 5 (some (.box 158 [(pI Dy),(.own 12),(pI M7),(pI M8),(pI M9)]))) 2 (some (.box 3 [(pI M7)]))) 3 (some (.box 3 [(pI M8)]))) 4 (some (.box 27 [(pI M9)])))):FMM Tp 15 [(.p (aC s))] [] (.tup [(.p (.agg [(aB 0),bM])),(pI M7),(pI M8),(pI M9)]) []:=FMM.fi 0 gE func15 [bF,.c (.fn 175 [] [(.ptr 11 0)]) [(11,(.box 9 [(.p (aC s))]))],Ak.k 1 ⟨(rng [(0,1),(11,13),(25,1),(27,109),(142,1)]),(rng [(0,12)]),[],[]⟩] (gc Ak (gt (FC Tp 88 [(.p (aC s))] [] 11 (.fn 175 [] [(.ptr 11 0)]) [(11,(.box 9 [(.p (aC s))]))]) (FMM.fcN (k:=1) rfl (ids:=[]) (aGw (s:=s)) (by kernel_rfl)) (gc (aJ h0) gn)))
theorem bAx{s:List UInt8}{R:List (List Cel)}{xl:List UInt8}(h0:inR (((nr+1):Nat):Int))(h1:xl.length<4294967281)(h2:1≤([32]:List UInt8).length)(h3:dn=true)(Cf:D7=(nr+1)):cC Tp 13 12 fM (kH (bU s nr my bf dn kd R.length ((R.map rwE).flatten)) 27 28 11 12 xl xb) .ret (bX (bX (bX (bX (bU s D7 my bf dn kd R.length ((R.map rwE).flatten)) 5 (some (.box 158 [(pI kd),(.own 12),(pI (((nr+1):Nat):Int)),(pI 1),(pI 11)]))) 2 (some (.box 3 [(pI (((nr+1):Nat):Int))]))) 3 (some (.box 3 [(pI 1)]))) 4 (some (.box 27 [(pI 11)]))).m:=by
 subst Cf
 have raw:cC Tp 13 12 fM (kH (bU s nr my bf dn kd R.length ((R.map rwE).flatten)) 27 28 11 12 xl xb) .ret (bX (bX (bX (bX (bU s (nr+1) my bf dn kd R.length ((R.map rwE).flatten)) 5 (some (.box 158 [(pI kd),(.own 12),(pI (((nr+1):Nat):Int)),(pI 1),(pI 11)]))) 2 (some (.box 3 [(pI (((nr+1):Nat):Int))]))) 3 (some (.box 3 [(pI 1)]))) 4 (some (.box 27 [(pI 11)]))).m:=⟨⟨fr 149 [(1,(.ptr 0 0)),(2,(.ptr 1 0)),(3,(.ptr 2 0)),(4,(.ptr 3 0)),(5,(.ptr 4 0)),(6,(.ptr 6 0)),(7,(.ptr 7 0)),(8,(.ptr 8 0)),(9,(.ptr 9 0)),(10,(.ptr 10 0)),(24,(.ptr 5 0)),(26,(.fn 175 [] [(.ptr 11 0)]))],[some (.box 9 [(.p (aC s))]),some (.box 26 [(pI 0),(.p bM)]),some (.box 3 [(pI (((nr+1):Nat):Int))]),some (.box 3 [(pI 1)]),some (.box 27 [(pI 11)]),some (.box 158 [(pI kd),(.own 12),(pI (((nr+1):Nat):Int)),(pI 1),(pI 11)]),some (.box 156 [(.ptr 5 0)]),some (.box 3 [(pI (((nr+1):Nat):Int))]),some (.box 3 [(pI my)]),some (.box 3 [(pI (bf:Int))]),some (.box 4 [(pB dn)]),some .dead,some (.row 78 R.length ((R.map rwE).flatten))]⟩,⟨[],[12],[],[]⟩,aA.fin (g:=⟨(rng [(0,1),(11,13),(25,1),(27,109),(142,1)]),[],[],[]⟩) (o:=[.c (.fn 176 [] [(.ptr 13 0),(.ptr 14 0)]) [(5,(.box 158 [(pI kd),(.own 12),(pI 0),(pI 0),(pI 0)])),(12,(.row 78 R.length ((R.map rwE).flatten))),(13,(.box 156 [(.ptr 5 0)])),(14,(.box 3 [(pI (((nr+1):Nat):Int))]))],.c (.p (.sl ((aW xl ([32]:List UInt8)).length) (((aW xl ([32]:List UInt8)).map stE).flatten))) [],bT,bT,bT,.c (pB false) [(13,(.box 156 [(.ptr 5 0)])),(14,(.box 3 [(pI (((nr+1):Nat):Int))])),(5,(.box 158 [(pI kd),(.own 12),(pI (((nr+1):Nat):Int)),(pI 1),(pI 11)])),(12,(.row 78 R.length ((R.map rwE).flatten)))],bT,.c (.tup [(.p (.agg [(aB 0),bM])),(pI (((nr+1):Nat):Int)),(pI 1),(pI 11)]) [(5,(.box 158 [(pI kd),(.own 12),(pI (((nr+1):Nat):Int)),(pI 1),(pI 11)])),(12,(.row 78 R.length ((R.map rwE).flatten)))]]) (l:=[FC Tp 94 [(.ptr 5 0)] [(5,(.box 158 [(pI kd),(.own 12),(pI (((nr+1):Nat):Int)),(pI 1),(pI 11)])),(12,(.row 78 R.length ((R.map rwE).flatten)))] 15 (.tup [(.p (.agg [(aB 0),bM])),(pI (((nr+1):Nat):Int)),(pI 1),(pI 11)]) [(5,(.box 158 [(pI kd),(.own 12),(pI (((nr+1):Nat):Int)),(pI 1),(pI 11)])),(12,(.row 78 R.length ((R.map rwE).flatten)))],_,FC Tp 176 [(pI 1),(pI 11),(.ptr 13 0),(.ptr 14 0)] [(13,(.box 156 [(.ptr 5 0)])),(14,(.box 3 [(pI (((nr+1):Nat):Int))])),(5,(.box 158 [(pI kd),(.own 12),(pI 0),(pI 0),(pI 0)])),(12,(.row 78 R.length ((R.map rwE).flatten)))] 15 (pB false) [(13,(.box 156 [(.ptr 5 0)])),(14,(.box 3 [(pI (((nr+1):Nat):Int))])),(5,(.box 158 [(pI kd),(.own 12),(pI (((nr+1):Nat):Int)),(pI 1),(pI 11)])),(12,(.row 78 R.length ((R.map rwE).flatten)))],_,_,_,_,FC Tp 89 [(.ptr 5 0),(pI (((nr+1):Nat):Int))] [(5,(.box 158 [(pI kd),(.own 12),(pI 0),(pI 0),(pI 0)])),(12,(.row 78 R.length ((R.map rwE).flatten)))] 13 (.fn 176 [] [(.ptr 13 0),(.ptr 14 0)]) [(5,(.box 158 [(pI kd),(.own 12),(pI 0),(pI 0),(pI 0)])),(12,(.row 78 R.length ((R.map rwE).flatten))),(13,(.box 156 [(.ptr 5 0)])),(14,(.box 3 [(pI (((nr+1):Nat):Int))]))],_]) (by kernel_rfl) (gc (FMM.fc (ids:=[5,12]) (kT (k:=kd) (l:=(((nr+1):Nat):Int)) (f:=(1:Int)) (e:=(11:Int)) (n:=R.length) (cs:=((R.map rwE).flatten)) (by decide)) (by kernel_rfl)) (gc bJb (gc (FMM.fc (ids:=[13,14,5,12]) (cU 1 11 (((nr+1):Nat):Int) kd 0 0 0 R) (by kernel_rfl)) (Ap h3 (gc (fk 15 (fB xl ([32]:List UInt8) h1 h2) rfl) (gc (FMM.fcN (k:=2) rfl (ids:=[5,12]) (fI (ln:=(((nr+1):Nat):Int)) (k:=kd) (l:=(0:Int)) (f:=(0:Int)) (e:=(0:Int)) (R:=R)) (by kernel_rfl)) (gc h0 gn))))))),by kernel_rfl,(⟨fr 149 [(1,(.ptr 0 0)),(2,(.ptr 1 0)),(3,(.ptr 2 0)),(4,(.ptr 3 0)),(5,(.ptr 4 0)),(6,(.ptr 6 0)),(7,(.ptr 7 0)),(8,(.ptr 8 0)),(9,(.ptr 9 0)),(10,(.ptr 10 0)),(24,(.ptr 5 0)),(26,(.fn 175 [] [(.ptr 11 0)]))],[some (.box 9 [(.p (aC s))]),some (.box 26 [(pI 0),(.p bM)]),some (.box 3 [(pI (((nr+1):Nat):Int))]),some (.box 3 [(pI 1)]),some (.box 27 [(pI 11)]),some (.box 158 [(pI kd),(.own 12),(pI (((nr+1):Nat):Int)),(pI 1),(pI 11)]),some (.box 156 [(.ptr 5 0)]),some (.box 3 [(pI (((nr+1):Nat):Int))]),some (.box 3 [(pI my)]),some (.box 3 [(pI (bf:Int))]),some (.box 4 [(pB dn)]),some .dead,some (.row 78 R.length ((R.map rwE).flatten))]⟩:St).t,by kernel_rfl⟩
 exact raw
theorem bAy{s:List UInt8}{R:List (List Cel)}{xl:List UInt8}(h0:inR (((nr+1):Nat):Int))(h1:xl.length<4294967281)(h2:1≤([32]:List UInt8).length)(h3:dn=false)(h4:xb=false)(Cf:D7=(nr+1)):cC Tp 13 12 fM (kH (bU s nr my bf dn kd R.length ((R.map rwE).flatten)) 27 28 11 12 xl xb) .ret (bX (bX (bX (bX (bU s D7 my bf dn kd R.length ((R.map rwE).flatten)) 5 (some (.box 158 [(pI kd),(.own 12),(pI (((nr+1):Nat):Int)),(pI 1),(pI 11)]))) 2 (some (.box 3 [(pI (((nr+1):Nat):Int))]))) 3 (some (.box 3 [(pI 1)]))) 4 (some (.box 27 [(pI 11)]))).m:=by
 subst Cf
 have raw:cC Tp 13 12 fM (kH (bU s nr my bf dn kd R.length ((R.map rwE).flatten)) 27 28 11 12 xl xb) .ret (bX (bX (bX (bX (bU s (nr+1) my bf dn kd R.length ((R.map rwE).flatten)) 5 (some (.box 158 [(pI kd),(.own 12),(pI (((nr+1):Nat):Int)),(pI 1),(pI 11)]))) 2 (some (.box 3 [(pI (((nr+1):Nat):Int))]))) 3 (some (.box 3 [(pI 1)]))) 4 (some (.box 27 [(pI 11)]))).m:=⟨⟨fr 149 [(1,(.ptr 0 0)),(2,(.ptr 1 0)),(3,(.ptr 2 0)),(4,(.ptr 3 0)),(5,(.ptr 4 0)),(6,(.ptr 6 0)),(7,(.ptr 7 0)),(8,(.ptr 8 0)),(9,(.ptr 9 0)),(10,(.ptr 10 0)),(24,(.ptr 5 0)),(26,(.fn 175 [] [(.ptr 11 0)]))],[some (.box 9 [(.p (aC s))]),some (.box 26 [(pI 0),(.p bM)]),some (.box 3 [(pI (((nr+1):Nat):Int))]),some (.box 3 [(pI 1)]),some (.box 27 [(pI 11)]),some (.box 158 [(pI kd),(.own 12),(pI (((nr+1):Nat):Int)),(pI 1),(pI 11)]),some (.box 156 [(.ptr 5 0)]),some (.box 3 [(pI (((nr+1):Nat):Int))]),some (.box 3 [(pI my)]),some (.box 3 [(pI (bf:Int))]),some (.box 4 [(pB dn)]),some .dead,some (.row 78 R.length ((R.map rwE).flatten))]⟩,⟨[],[12],[],[]⟩,aA.fin (g:=⟨(rng [(0,1),(11,13),(25,1),(27,109),(142,1)]),[],[],[]⟩) (o:=[.c (.fn 176 [] [(.ptr 13 0),(.ptr 14 0)]) [(5,(.box 158 [(pI kd),(.own 12),(pI 0),(pI 0),(pI 0)])),(12,(.row 78 R.length ((R.map rwE).flatten))),(13,(.box 156 [(.ptr 5 0)])),(14,(.box 3 [(pI (((nr+1):Nat):Int))]))],.c (.p (.sl ((aW xl ([32]:List UInt8)).length) (((aW xl ([32]:List UInt8)).map stE).flatten))) [],bF,bF,bF,bT,.c (pB false) [(13,(.box 156 [(.ptr 5 0)])),(14,(.box 3 [(pI (((nr+1):Nat):Int))])),(5,(.box 158 [(pI kd),(.own 12),(pI (((nr+1):Nat):Int)),(pI 1),(pI 11)])),(12,(.row 78 R.length ((R.map rwE).flatten)))],bT,.c (.tup [(.p (.agg [(aB 0),bM])),(pI (((nr+1):Nat):Int)),(pI 1),(pI 11)]) [(5,(.box 158 [(pI kd),(.own 12),(pI (((nr+1):Nat):Int)),(pI 1),(pI 11)])),(12,(.row 78 R.length ((R.map rwE).flatten)))]]) (l:=[FC Tp 94 [(.ptr 5 0)] [(5,(.box 158 [(pI kd),(.own 12),(pI (((nr+1):Nat):Int)),(pI 1),(pI 11)])),(12,(.row 78 R.length ((R.map rwE).flatten)))] 15 (.tup [(.p (.agg [(aB 0),bM])),(pI (((nr+1):Nat):Int)),(pI 1),(pI 11)]) [(5,(.box 158 [(pI kd),(.own 12),(pI (((nr+1):Nat):Int)),(pI 1),(pI 11)])),(12,(.row 78 R.length ((R.map rwE).flatten)))],_,FC Tp 176 [(pI 1),(pI 11),(.ptr 13 0),(.ptr 14 0)] [(13,(.box 156 [(.ptr 5 0)])),(14,(.box 3 [(pI (((nr+1):Nat):Int))])),(5,(.box 158 [(pI kd),(.own 12),(pI 0),(pI 0),(pI 0)])),(12,(.row 78 R.length ((R.map rwE).flatten)))] 15 (pB false) [(13,(.box 156 [(.ptr 5 0)])),(14,(.box 3 [(pI (((nr+1):Nat):Int))])),(5,(.box 158 [(pI kd),(.own 12),(pI (((nr+1):Nat):Int)),(pI 1),(pI 11)])),(12,(.row 78 R.length ((R.map rwE).flatten)))],_,_,_,_,_,FC Tp 89 [(.ptr 5 0),(pI (((nr+1):Nat):Int))] [(5,(.box 158 [(pI kd),(.own 12),(pI 0),(pI 0),(pI 0)])),(12,(.row 78 R.length ((R.map rwE).flatten)))] 13 (.fn 176 [] [(.ptr 13 0),(.ptr 14 0)]) [(5,(.box 158 [(pI kd),(.own 12),(pI 0),(pI 0),(pI 0)])),(12,(.row 78 R.length ((R.map rwE).flatten))),(13,(.box 156 [(.ptr 5 0)])),(14,(.box 3 [(pI (((nr+1):Nat):Int))]))],_]) (by kernel_rfl) (gc (FMM.fc (ids:=[5,12]) (kT (k:=kd) (l:=(((nr+1):Nat):Int)) (f:=(1:Int)) (e:=(11:Int)) (n:=R.length) (cs:=((R.map rwE).flatten)) (by decide)) (by kernel_rfl)) (gc bJb (gc (FMM.fc (ids:=[13,14,5,12]) (cU 1 11 (((nr+1):Nat):Int) kd 0 0 0 R) (by kernel_rfl)) (gc (cN h4) (Ap h3 (gc (fk 15 (fB xl ([32]:List UInt8) h1 h2) rfl) (gc (FMM.fcN (k:=2) rfl (ids:=[5,12]) (fI (ln:=(((nr+1):Nat):Int)) (k:=kd) (l:=(0:Int)) (f:=(0:Int)) (e:=(0:Int)) (R:=R)) (by kernel_rfl)) (gc h0 gn)))))))),by kernel_rfl,(⟨fr 149 [(1,(.ptr 0 0)),(2,(.ptr 1 0)),(3,(.ptr 2 0)),(4,(.ptr 3 0)),(5,(.ptr 4 0)),(6,(.ptr 6 0)),(7,(.ptr 7 0)),(8,(.ptr 8 0)),(9,(.ptr 9 0)),(10,(.ptr 10 0)),(24,(.ptr 5 0)),(26,(.fn 175 [] [(.ptr 11 0)]))],[some (.box 9 [(.p (aC s))]),some (.box 26 [(pI 0),(.p bM)]),some (.box 3 [(pI (((nr+1):Nat):Int))]),some (.box 3 [(pI 1)]),some (.box 27 [(pI 11)]),some (.box 158 [(pI kd),(.own 12),(pI (((nr+1):Nat):Int)),(pI 1),(pI 11)]),some (.box 156 [(.ptr 5 0)]),some (.box 3 [(pI (((nr+1):Nat):Int))]),some (.box 3 [(pI my)]),some (.box 3 [(pI (bf:Int))]),some (.box 4 [(pB dn)]),some .dead,some (.row 78 R.length ((R.map rwE).flatten))]⟩:St).t,by kernel_rfl⟩
 exact raw
theorem bAz{s:List UInt8}{R:List (List Cel)}{xl:List UInt8}(h0:inR (((nr+1):Nat):Int))(h1:xl.length<4294967281)(h2:1≤([32]:List UInt8).length)(h3:dn=false)(h4:xb=true)(h5:(((nr+1):Nat):Int)=1)(Na:(hdM (aW xl ([32]:List UInt8))).2.2.2≠0)(h7:((hdM (aW xl ([32]:List UInt8))).2.2.2)≠0)(Cf:D7=(nr+1))(Eb:Gl=((hdM (aW xl ([32]:List UInt8))).2.1))(Ed:Gk=(Di (hdM (aW xl ([32]:List UInt8))).1)):cC Tp 13 12 fM (kH (bU s nr my bf dn kd R.length ((R.map rwE).flatten)) 27 28 11 12 xl xb) .ret (bX (bX (bX (bX (bU s D7 Gl bf dn Gk R.length ((R.map rwE).flatten)) 5 (some (.box 158 [(pI (Di (hdM (aW xl ([32]:List UInt8))).1)),(.own 12),(pI (((nr+1):Nat):Int)),(pI ((hdM (aW xl ([32]:List UInt8))).2.2.1)),(pI ((hdM (aW xl ([32]:List UInt8))).2.2.2))]))) 2 (some (.box 3 [(pI (((nr+1):Nat):Int))]))) 3 (some (.box 3 [(pI ((hdM (aW xl ([32]:List UInt8))).2.2.1))]))) 4 (some (.box 27 [(pI ((hdM (aW xl ([32]:List UInt8))).2.2.2))]))).m:=by
 subst Cf Eb Ed
 have raw:cC Tp 13 12 fM (kH (bU s nr my bf dn kd R.length ((R.map rwE).flatten)) 27 28 11 12 xl xb) .ret (bX (bX (bX (bX (bU s (nr+1) ((hdM (aW xl ([32]:List UInt8))).2.1) bf dn (Di (hdM (aW xl ([32]:List UInt8))).1) R.length ((R.map rwE).flatten)) 5 (some (.box 158 [(pI (Di (hdM (aW xl ([32]:List UInt8))).1)),(.own 12),(pI (((nr+1):Nat):Int)),(pI ((hdM (aW xl ([32]:List UInt8))).2.2.1)),(pI ((hdM (aW xl ([32]:List UInt8))).2.2.2))]))) 2 (some (.box 3 [(pI (((nr+1):Nat):Int))]))) 3 (some (.box 3 [(pI ((hdM (aW xl ([32]:List UInt8))).2.2.1))]))) 4 (some (.box 27 [(pI ((hdM (aW xl ([32]:List UInt8))).2.2.2))]))).m:=⟨⟨fr 149 [(1,(.ptr 0 0)),(2,(.ptr 1 0)),(3,(.ptr 2 0)),(4,(.ptr 3 0)),(5,(.ptr 4 0)),(6,(.ptr 6 0)),(7,(.ptr 7 0)),(8,(.ptr 8 0)),(9,(.ptr 9 0)),(10,(.ptr 10 0)),(24,(.ptr 5 0)),(26,(.fn 175 [] [(.ptr 11 0)]))],[some (.box 9 [(.p (aC s))]),some (.box 26 [(pI 0),(.p bM)]),some (.box 3 [(pI (((nr+1):Nat):Int))]),some (.box 3 [(pI ((hdM (aW xl ([32]:List UInt8))).2.2.1))]),some (.box 27 [(pI ((hdM (aW xl ([32]:List UInt8))).2.2.2))]),some (.box 158 [(pI (Di (hdM (aW xl ([32]:List UInt8))).1)),(.own 12),(pI (((nr+1):Nat):Int)),(pI ((hdM (aW xl ([32]:List UInt8))).2.2.1)),(pI ((hdM (aW xl ([32]:List UInt8))).2.2.2))]),some (.box 156 [(.ptr 5 0)]),some (.box 3 [(pI (((nr+1):Nat):Int))]),some (.box 3 [(pI ((hdM (aW xl ([32]:List UInt8))).2.1))]),some (.box 3 [(pI (bf:Int))]),some (.box 4 [(pB dn)]),some .dead,some (.row 78 R.length ((R.map rwE).flatten))]⟩,⟨[],[12],[],[]⟩,aA.fin (g:=⟨(rng [(0,1),(11,13),(25,1),(27,109),(142,1)]),[],[],[]⟩) (o:=[.c (.fn 176 [] [(.ptr 13 0),(.ptr 14 0)]) [(5,(.box 158 [(pI kd),(.own 12),(pI 0),(pI 0),(pI 0)])),(12,(.row 78 R.length ((R.map rwE).flatten))),(13,(.box 156 [(.ptr 5 0)])),(14,(.box 3 [(pI (((nr+1):Nat):Int))]))],.c (.p (.sl ((aW xl ([32]:List UInt8)).length) (((aW xl ([32]:List UInt8)).map stE).flatten))) [],bF,bF,bF,bF,bT,.c (pI ((hdM (aW xl ([32]:List UInt8))).2.1)) [(5,(.box 158 [(pI (Di (hdM (aW xl ([32]:List UInt8))).1)),(.own 12),(pI (((nr+1):Nat):Int)),(pI ((hdM (aW xl ([32]:List UInt8))).2.2.1)),(pI ((hdM (aW xl ([32]:List UInt8))).2.2.2))])),(12,(.row 78 R.length ((R.map rwE).flatten))),(13,(.box 156 [(.ptr 5 0)])),(14,(.box 3 [(pI (((nr+1):Nat):Int))]))],bT,.c (.tup [(.p (.agg [(aB 0),bM])),(pI (((nr+1):Nat):Int)),(pI ((hdM (aW xl ([32]:List UInt8))).2.2.1)),(pI ((hdM (aW xl ([32]:List UInt8))).2.2.2))]) [(5,(.box 158 [(pI (Di (hdM (aW xl ([32]:List UInt8))).1)),(.own 12),(pI (((nr+1):Nat):Int)),(pI ((hdM (aW xl ([32]:List UInt8))).2.2.1)),(pI ((hdM (aW xl ([32]:List UInt8))).2.2.2))])),(12,(.row 78 R.length ((R.map rwE).flatten)))]]) (l:=[FC Tp 94 [(.ptr 5 0)] [(5,(.box 158 [(pI (Di (hdM (aW xl ([32]:List UInt8))).1)),(.own 12),(pI (((nr+1):Nat):Int)),(pI ((hdM (aW xl ([32]:List UInt8))).2.2.1)),(pI ((hdM (aW xl ([32]:List UInt8))).2.2.2))])),(12,(.row 78 R.length ((R.map rwE).flatten)))] 15 (.tup [(.p (.agg [(aB 0),bM])),(pI (((nr+1):Nat):Int)),(pI ((hdM (aW xl ([32]:List UInt8))).2.2.1)),(pI ((hdM (aW xl ([32]:List UInt8))).2.2.2))]) [(5,(.box 158 [(pI (Di (hdM (aW xl ([32]:List UInt8))).1)),(.own 12),(pI (((nr+1):Nat):Int)),(pI ((hdM (aW xl ([32]:List UInt8))).2.2.1)),(pI ((hdM (aW xl ([32]:List UInt8))).2.2.2))])),(12,(.row 78 R.length ((R.map rwE).flatten)))],_,FC Tp 90 [(.ptr 5 0),(.p (.sl ((aW xl ([32]:List UInt8)).length) (((aW xl ([32]:List UInt8)).map stE).flatten))),(.fn 176 [] [(.ptr 13 0),(.ptr 14 0)])] [(5,(.box 158 [(pI kd),(.own 12),(pI 0),(pI 0),(pI 0)])),(13,(.box 156 [(.ptr 5 0)])),(14,(.box 3 [(pI (((nr+1):Nat):Int))])),(12,(.row 78 R.length ((R.map rwE).flatten)))] 15 (pI ((hdM (aW xl ([32]:List UInt8))).2.1)) [(5,(.box 158 [(pI (Di (hdM (aW xl ([32]:List UInt8))).1)),(.own 12),(pI (((nr+1):Nat):Int)),(pI ((hdM (aW xl ([32]:List UInt8))).2.2.1)),(pI ((hdM (aW xl ([32]:List UInt8))).2.2.2))])),(12,(.row 78 R.length ((R.map rwE).flatten))),(13,(.box 156 [(.ptr 5 0)])),(14,(.box 3 [(pI (((nr+1):Nat):Int))]))],_,_,_,_,_,_,FC Tp 89 [(.ptr 5 0),(pI (((nr+1):Nat):Int))] [(5,(.box 158 [(pI kd),(.own 12),(pI 0),(pI 0),(pI 0)])),(12,(.row 78 R.length ((R.map rwE).flatten)))] 13 (.fn 176 [] [(.ptr 13 0),(.ptr 14 0)]) [(5,(.box 158 [(pI kd),(.own 12),(pI 0),(pI 0),(pI 0)])),(12,(.row 78 R.length ((R.map rwE).flatten))),(13,(.box 156 [(.ptr 5 0)])),(14,(.box 3 [(pI (((nr+1):Nat):Int))]))],_]) (by kernel_rfl) (gc (FMM.fc (ids:=[5,12]) (kT (k:=(Di (hdM (aW xl ([32]:List UInt8))).1)) (l:=(((nr+1):Nat):Int)) (f:=((hdM (aW xl ([32]:List UInt8))).2.2.1)) (e:=((hdM (aW xl ([32]:List UInt8))).2.2.2)) (n:=R.length) (cs:=((R.map rwE).flatten)) h7) (by kernel_rfl)) (gc (cL h7) (gc (FMM.fc (ids:=[5,12,13,14]) (cAx (aW xl ([32]:List UInt8)) (((nr+1):Nat):Int) kd R Na) (by kernel_rfl)) (gc (cP h5) (gc (aO h4) (Ap h3 (gc (fk 15 (fB xl ([32]:List UInt8) h1 h2) rfl) (gc (FMM.fcN (k:=2) rfl (ids:=[5,12]) (fI (ln:=(((nr+1):Nat):Int)) (k:=kd) (l:=(0:Int)) (f:=(0:Int)) (e:=(0:Int)) (R:=R)) (by kernel_rfl)) (gc h0 gn))))))))),by kernel_rfl,(⟨fr 149 [(1,(.ptr 0 0)),(2,(.ptr 1 0)),(3,(.ptr 2 0)),(4,(.ptr 3 0)),(5,(.ptr 4 0)),(6,(.ptr 6 0)),(7,(.ptr 7 0)),(8,(.ptr 8 0)),(9,(.ptr 9 0)),(10,(.ptr 10 0)),(24,(.ptr 5 0)),(26,(.fn 175 [] [(.ptr 11 0)]))],[some (.box 9 [(.p (aC s))]),some (.box 26 [(pI 0),(.p bM)]),some (.box 3 [(pI (((nr+1):Nat):Int))]),some (.box 3 [(pI ((hdM (aW xl ([32]:List UInt8))).2.2.1))]),some (.box 27 [(pI ((hdM (aW xl ([32]:List UInt8))).2.2.2))]),some (.box 158 [(pI (Di (hdM (aW xl ([32]:List UInt8))).1)),(.own 12),(pI (((nr+1):Nat):Int)),(pI ((hdM (aW xl ([32]:List UInt8))).2.2.1)),(pI ((hdM (aW xl ([32]:List UInt8))).2.2.2))]),some (.box 156 [(.ptr 5 0)]),some (.box 3 [(pI (((nr+1):Nat):Int))]),some (.box 3 [(pI ((hdM (aW xl ([32]:List UInt8))).2.1))]),some (.box 3 [(pI (bf:Int))]),some (.box 4 [(pB dn)]),some .dead,some (.row 78 R.length ((R.map rwE).flatten))]⟩:St).t,by kernel_rfl⟩
 exact raw
theorem bBa{s:List UInt8}{R:List (List Cel)}{xl:List UInt8}(h0:inR (((nr+1):Nat):Int))(h1:xl.length<4294967281)(h2:1≤([32]:List UInt8).length)(h3:dn=false)(h4:xb=true)(h5:(((nr+1):Nat):Int)=1)(Na:(hdM (aW xl ([32]:List UInt8))).2.2.2=0)(h7:inR (((xl.length+1):Nat):Int))(h8:inR (((bf+(xl.length+1)):Nat):Int))(Cf:D7=(nr+1))(Eb:Gl=((hdM (aW xl ([32]:List UInt8))).2.1))(F6:Ir=(bf+(xl.length+1)))(Ed:Gk=(Di (hdM (aW xl ([32]:List UInt8))).1)):cC Tp 13 12 fM (kH (bU s nr my bf dn kd R.length ((R.map rwE).flatten)) 27 28 11 12 xl xb) .normal (bU s D7 Gl Ir dn Gk R.length ((R.map rwE).flatten)).m:=by
 subst Cf Eb F6 Ed
 have raw:cC Tp 13 12 fM (kH (bU s nr my bf dn kd R.length ((R.map rwE).flatten)) 27 28 11 12 xl xb) .normal (bU s (nr+1) ((hdM (aW xl ([32]:List UInt8))).2.1) (bf+(xl.length+1)) dn (Di (hdM (aW xl ([32]:List UInt8))).1) R.length ((R.map rwE).flatten)).m:=⟨⟨fr 149 [(1,(.ptr 0 0)),(2,(.ptr 1 0)),(3,(.ptr 2 0)),(4,(.ptr 3 0)),(5,(.ptr 4 0)),(6,(.ptr 6 0)),(7,(.ptr 7 0)),(8,(.ptr 8 0)),(9,(.ptr 9 0)),(10,(.ptr 10 0)),(24,(.ptr 5 0)),(26,(.fn 175 [] [(.ptr 11 0)]))],[some (.box 9 [(.p (aC s))]),some (.box 26 [(pI 0),(.p bM)]),some (.box 3 [(pI 0)]),some (.box 3 [(pI 0)]),some (.box 27 [(pI 0)]),some (.box 158 [(pI (Di (hdM (aW xl ([32]:List UInt8))).1)),(.own 12),(pI 0),(pI 0),(pI 0)]),some (.box 156 [(.ptr 5 0)]),some (.box 3 [(pI (((nr+1):Nat):Int))]),some (.box 3 [(pI ((hdM (aW xl ([32]:List UInt8))).2.1))]),some (.box 3 [(pI (((bf+(xl.length+1)):Nat):Int))]),some (.box 4 [(pB dn)]),some .dead,some (.row 78 R.length ((R.map rwE).flatten))]⟩,⟨[],[12],[],[]⟩,aA.fin (g:=⟨(rng [(0,1),(11,13),(25,1),(27,109),(142,1)]),[],[],[]⟩) (o:=[.c (.fn 176 [] [(.ptr 13 0),(.ptr 14 0)]) [(5,(.box 158 [(pI kd),(.own 12),(pI 0),(pI 0),(pI 0)])),(12,(.row 78 R.length ((R.map rwE).flatten))),(13,(.box 156 [(.ptr 5 0)])),(14,(.box 3 [(pI (((nr+1):Nat):Int))]))],.c (.p (.sl ((aW xl ([32]:List UInt8)).length) (((aW xl ([32]:List UInt8)).map stE).flatten))) [],bF,bF,bF,bF,bT,.c (pI ((hdM (aW xl ([32]:List UInt8))).2.1)) [(5,(.box 158 [(pI (Di (hdM (aW xl ([32]:List UInt8))).1)),(.own 12),(pI 0),(pI 0),(pI 0)])),(12,(.row 78 R.length ((R.map rwE).flatten))),(13,(.box 156 [(.ptr 5 0)])),(14,(.box 3 [(pI (((nr+1):Nat):Int))]))],bF]) (l:=[_,_,_,FC Tp 90 [(.ptr 5 0),(.p (.sl ((aW xl ([32]:List UInt8)).length) (((aW xl ([32]:List UInt8)).map stE).flatten))),(.fn 176 [] [(.ptr 13 0),(.ptr 14 0)])] [(5,(.box 158 [(pI kd),(.own 12),(pI 0),(pI 0),(pI 0)])),(13,(.box 156 [(.ptr 5 0)])),(14,(.box 3 [(pI (((nr+1):Nat):Int))])),(12,(.row 78 R.length ((R.map rwE).flatten)))] 15 (pI ((hdM (aW xl ([32]:List UInt8))).2.1)) [(5,(.box 158 [(pI (Di (hdM (aW xl ([32]:List UInt8))).1)),(.own 12),(pI 0),(pI 0),(pI 0)])),(12,(.row 78 R.length ((R.map rwE).flatten))),(13,(.box 156 [(.ptr 5 0)])),(14,(.box 3 [(pI (((nr+1):Nat):Int))]))],_,_,_,_,_,_,FC Tp 89 [(.ptr 5 0),(pI (((nr+1):Nat):Int))] [(5,(.box 158 [(pI kd),(.own 12),(pI 0),(pI 0),(pI 0)])),(12,(.row 78 R.length ((R.map rwE).flatten)))] 13 (.fn 176 [] [(.ptr 13 0),(.ptr 14 0)]) [(5,(.box 158 [(pI kd),(.own 12),(pI 0),(pI 0),(pI 0)])),(12,(.row 78 R.length ((R.map rwE).flatten))),(13,(.box 156 [(.ptr 5 0)])),(14,(.box 3 [(pI (((nr+1):Nat):Int))]))],_]) (by kernel_rfl) (gc h8 (gc h7 (gc aSw (gc (FMM.fc (ids:=[5,12,13,14]) (cAy (aW xl ([32]:List UInt8)) (((nr+1):Nat):Int) kd R Na) (by kernel_rfl)) (gc (cP h5) (gc (aO h4) (Ap h3 (gc (fk 15 (fB xl ([32]:List UInt8) h1 h2) rfl) (gc (FMM.fcN (k:=2) rfl (ids:=[5,12]) (fI (ln:=(((nr+1):Nat):Int)) (k:=kd) (l:=(0:Int)) (f:=(0:Int)) (e:=(0:Int)) (R:=R)) (by kernel_rfl)) (gc h0 gn)))))))))),by kernel_rfl,(⟨fr 149 [(1,(.ptr 0 0)),(2,(.ptr 1 0)),(3,(.ptr 2 0)),(4,(.ptr 3 0)),(5,(.ptr 4 0)),(6,(.ptr 6 0)),(7,(.ptr 7 0)),(8,(.ptr 8 0)),(9,(.ptr 9 0)),(10,(.ptr 10 0)),(24,(.ptr 5 0)),(26,(.fn 175 [] [(.ptr 11 0)]))],[some (.box 9 [(.p (aC s))]),some (.box 26 [(pI 0),(.p bM)]),some (.box 3 [(pI 0)]),some (.box 3 [(pI 0)]),some (.box 27 [(pI 0)]),some (.box 158 [(pI (Di (hdM (aW xl ([32]:List UInt8))).1)),(.own 12),(pI 0),(pI 0),(pI 0)]),some (.box 156 [(.ptr 5 0)]),some (.box 3 [(pI (((nr+1):Nat):Int))]),some (.box 3 [(pI ((hdM (aW xl ([32]:List UInt8))).2.1))]),some (.box 3 [(pI (((bf+(xl.length+1)):Nat):Int))]),some (.box 4 [(pB dn)]),some .dead,some (.row 78 R.length ((R.map rwE).flatten))]⟩:St).t,by kernel_rfl⟩
 exact raw
theorem bBb{s:List UInt8}{R:List (List Cel)}{xl:List UInt8}{Af Ay:List Cel}{R':List (List Cel)}(h0:inR (((nr+1):Nat):Int))(h1:xl.length<4294967281)(h2:1≤([32]:List UInt8).length)(h3:dn=false)(h4:xb=true)(h5:(((nr+1):Nat):Int)≠1)(h6:inR (my+1))(h7:(((nr+1):Nat):Int)≤(my+1))(He:∀ u∈(aW xl ([32]:List UInt8)),u.length≤90000)(Hf:rdL (aK kd) (aW xl ([32]:List UInt8)) 0 = .inl Af)(E7:(aW xl ([32]:List UInt8)).length=(aK kd).length)(Bt:(0:Int)<(R.length:Int))(Be:inR ((R.length:Int)-1))(B1:0≤((R.length:Int)-1)∧((R.length:Int)-1)<(R.length:Int))(Cs:R[((R.length:Int)-1).toNat]? = some (Ay))(Dd:aN kd≤(Ay.length:Int))(Ea:aN kd≤(Af.length:Int))(Ek:bV kd Ay Af=(-1:Int))(Fy:[(PV.sl Af.length ((Af.map cE).flatten))].length=1*1∧R.length+1≤1000000)(G8:inR (((xl.length+1):Nat):Int))(G9:inR (((bf+(xl.length+1)):Nat):Int))(Cf:D7=(nr+1))(F6:Ir=(bf+(xl.length+1)))(Cv:R'.length=(R.length+1))(Cw:(R'.map rwE).flatten=(((R.map rwE).flatten)++[(PV.sl Af.length ((Af.map cE).flatten))])):cC Tp 13 12 fM (kH (bU s nr my bf dn kd R.length ((R.map rwE).flatten)) 27 28 11 12 xl xb) .normal (bU s D7 my Ir dn kd R'.length ((R'.map rwE).flatten)).m:=by
 subst Cf F6
 have raw:cC Tp 13 12 fM (kH (bU s nr my bf dn kd R.length ((R.map rwE).flatten)) 27 28 11 12 xl xb) .normal (bU s (nr+1) my (bf+(xl.length+1)) dn kd (R.length+1) (((R.map rwE).flatten)++[(PV.sl Af.length ((Af.map cE).flatten))])).m:=⟨⟨fr 149 [(1,(.ptr 0 0)),(2,(.ptr 1 0)),(3,(.ptr 2 0)),(4,(.ptr 3 0)),(5,(.ptr 4 0)),(6,(.ptr 6 0)),(7,(.ptr 7 0)),(8,(.ptr 8 0)),(9,(.ptr 9 0)),(10,(.ptr 10 0)),(24,(.ptr 5 0)),(26,(.fn 175 [] [(.ptr 11 0)]))],[some (.box 9 [(.p (aC s))]),some (.box 26 [(pI 0),(.p bM)]),some (.box 3 [(pI 0)]),some (.box 3 [(pI 0)]),some (.box 27 [(pI 0)]),some (.box 158 [(pI kd),(.own 13),(pI 0),(pI 0),(pI 0)]),some (.box 156 [(.ptr 5 0)]),some (.box 3 [(pI (((nr+1):Nat):Int))]),some (.box 3 [(pI my)]),some (.box 3 [(pI (((bf+(xl.length+1)):Nat):Int))]),some (.box 4 [(pB dn)]),some .dead,some .dead,some (.row 78 (R.length+1) (((R.map rwE).flatten)++[(PV.sl Af.length ((Af.map cE).flatten))]))]⟩,⟨[],[13],[],[]⟩,aA.fin (g:=⟨(rng [(0,1),(11,13),(25,1),(27,109),(142,1)]),[17],[],[]⟩) (o:=[.c (.fn 176 [] [(.ptr 13 0),(.ptr 14 0)]) [(5,(.box 158 [(pI kd),(.own 12),(pI 0),(pI 0),(pI 0)])),(12,(.row 78 R.length ((R.map rwE).flatten))),(13,(.box 156 [(.ptr 5 0)])),(14,(.box 3 [(pI (((nr+1):Nat):Int))]))],.c (.p (.sl ((aW xl ([32]:List UInt8)).length) (((aW xl ([32]:List UInt8)).map stE).flatten))) [],bF,bF,bF,bF,bF,bT,.c (.tup [(.own 15),(pB true)]) [(5,(.box 158 [(pI kd),(.own 12),(pI 0),(pI 0),(pI 0)])),(12,(.row 78 R.length ((R.map rwE).flatten))),(13,(.box 156 [(.ptr 5 0)])),(14,(.box 3 [(pI (((nr+1):Nat):Int))])),(15,(.row 80 Af.length ((Af.map cE).flatten)))],bT,bT,.x (.sl Ay.length ((Ay.map cE).flatten)),.c (pI (-1)) [],.c (pB true) [(13,(.box 156 [(.ptr 5 0)])),(14,(.box 3 [(pI (((nr+1):Nat):Int))])),(5,(.box 158 [(pI kd),(.own 12),(pI 0),(pI 0),(pI 0)])),(12,(.row 78 R.length ((R.map rwE).flatten)))],bF]) (l:=[_,_,_,_,FC Tp 176 [(pI 1),(pI 0),(.ptr 13 0),(.ptr 14 0)] [(13,(.box 156 [(.ptr 5 0)])),(14,(.box 3 [(pI (((nr+1):Nat):Int))])),(5,(.box 158 [(pI kd),(.own 12),(pI 0),(pI 0),(pI 0)])),(12,(.row 78 R.length ((R.map rwE).flatten)))] 25 (pB true) [(13,(.box 156 [(.ptr 5 0)])),(14,(.box 3 [(pI (((nr+1):Nat):Int))])),(5,(.box 158 [(pI kd),(.own 12),(pI 0),(pI 0),(pI 0)])),(12,(.row 78 R.length ((R.map rwE).flatten)))],0≤(0:Int)∧(0:Int)<3,inR 0,FC Tp 92 [(pI kd),(.p (.sl Ay.length ((Ay.map cE).flatten))),(.own 15)] [(15,(.row 80 Af.length ((Af.map cE).flatten)))] 17 (pI (-1)) [],((R.map rwE).flatten)[(((R.length:Int)-1).toNat*1)]? = some (.sl Ay.length ((Ay.map cE).flatten)),_,_,_,true=true,FC Tp 91 [(.ptr 5 0),(.p (.sl ((aW xl ([32]:List UInt8)).length) (((aW xl ([32]:List UInt8)).map stE).flatten))),(.fn 176 [] [(.ptr 13 0),(.ptr 14 0)])] [(5,(.box 158 [(pI kd),(.own 12),(pI 0),(pI 0),(pI 0)])),(13,(.box 156 [(.ptr 5 0)])),(14,(.box 3 [(pI (((nr+1):Nat):Int))])),(12,(.row 78 R.length ((R.map rwE).flatten)))] 15 (.tup [(.own 15),(pB true)]) [(5,(.box 158 [(pI kd),(.own 12),(pI 0),(pI 0),(pI 0)])),(12,(.row 78 R.length ((R.map rwE).flatten))),(13,(.box 156 [(.ptr 5 0)])),(14,(.box 3 [(pI (((nr+1):Nat):Int))])),(15,(.row 80 Af.length ((Af.map cE).flatten)))],_,_,_,_,_,_,_,_,FC Tp 89 [(.ptr 5 0),(pI (((nr+1):Nat):Int))] [(5,(.box 158 [(pI kd),(.own 12),(pI 0),(pI 0),(pI 0)])),(12,(.row 78 R.length ((R.map rwE).flatten)))] 13 (.fn 176 [] [(.ptr 13 0),(.ptr 14 0)]) [(5,(.box 158 [(pI kd),(.own 12),(pI 0),(pI 0),(pI 0)])),(12,(.row 78 R.length ((R.map rwE).flatten))),(13,(.box 156 [(.ptr 5 0)])),(14,(.box 3 [(pI (((nr+1):Nat):Int))]))],_]) (by kernel_rfl) (gc G9 (gc G8 (gc aSw (gc Fy (gc (FMM.fc (ids:=[13,14,5,12]) (cU 1 0 (((nr+1):Nat):Int) kd 0 0 0 R) (by kernel_rfl)) (gc (by first | decide | simp) (gc (by show _∧_;omega) (gc (fv (aPy kd Ay Af Dd Ea Ek)) (gc (aQ (E:=rwE) (i:=((R.length:Int)-1).toNat) (f:=0) (k:=1) (fun _=>rfl) Cs rfl) (gc B1 (gc Be (gc (bJ Bt) (gc rfl (gc (FMM.fcN (k:=1) rfl (ids:=[5,12,13,14]) (lS (((nr+1):Nat):Int) R 0 0 He Hf E7) (by kernel_rfl)) (gc (gO h7) (gc h6 (gc (bA h5) (gc (aO h4) (Ap h3 (gc (fk 15 (fB xl ([32]:List UInt8) h1 h2) rfl) (gc (FMM.fcN (k:=2) rfl (ids:=[5,12]) (fI (ln:=(((nr+1):Nat):Int)) (k:=kd) (l:=(0:Int)) (f:=(0:Int)) (e:=(0:Int)) (R:=R)) (by kernel_rfl)) (gc h0 gn)))))))))))))))))))))),by kernel_rfl,(⟨fr 149 [(1,(.ptr 0 0)),(2,(.ptr 1 0)),(3,(.ptr 2 0)),(4,(.ptr 3 0)),(5,(.ptr 4 0)),(6,(.ptr 6 0)),(7,(.ptr 7 0)),(8,(.ptr 8 0)),(9,(.ptr 9 0)),(10,(.ptr 10 0)),(24,(.ptr 5 0)),(26,(.fn 175 [] [(.ptr 11 0)]))],[some (.box 9 [(.p (aC s))]),some (.box 26 [(pI 0),(.p bM)]),some (.box 3 [(pI 0)]),some (.box 3 [(pI 0)]),some (.box 27 [(pI 0)]),some (.box 158 [(pI kd),(.own 13),(pI 0),(pI 0),(pI 0)]),some (.box 156 [(.ptr 5 0)]),some (.box 3 [(pI (((nr+1):Nat):Int))]),some (.box 3 [(pI my)]),some (.box 3 [(pI (((bf+(xl.length+1)):Nat):Int))]),some (.box 4 [(pB dn)]),some .dead,some .dead,some (.row 78 (R.length+1) (((R.map rwE).flatten)++[(PV.sl Af.length ((Af.map cE).flatten))]))]⟩:St).t,by kernel_rfl⟩
 exact raw.cast (by rw [Cv,Cw])
theorem bBc{s:List UInt8}{R:List (List Cel)}{xl:List UInt8}{Af Ay:List Cel}{R':List (List Cel)}(h0:inR (((nr+1):Nat):Int))(h1:xl.length<4294967281)(h2:1≤([32]:List UInt8).length)(h3:dn=false)(h4:xb=true)(h5:(((nr+1):Nat):Int)≠1)(h6:inR (my+1))(h7:(((nr+1):Nat):Int)≤(my+1))(He:∀ u∈(aW xl ([32]:List UInt8)),u.length≤90000)(Hf:rdL (aK kd) (aW xl ([32]:List UInt8)) 0 = .inl Af)(E7:(aW xl ([32]:List UInt8)).length=(aK kd).length)(Bt:(0:Int)<(R.length:Int))(Be:inR ((R.length:Int)-1))(B1:0≤((R.length:Int)-1)∧((R.length:Int)-1)<(R.length:Int))(Cs:R[((R.length:Int)-1).toNat]? = some (Ay))(Dd:aN kd≤(Ay.length:Int))(Ea:aN kd≤(Af.length:Int))(Ek:bV kd Ay Af=0)(Fy:[(PV.sl Af.length ((Af.map cE).flatten))].length=1*1∧R.length+1≤1000000)(Cf:D7=(nr+1))(Cv:R'.length=(R.length+1))(Cw:(R'.map rwE).flatten=(((R.map rwE).flatten)++[(PV.sl Af.length ((Af.map cE).flatten))])):cC Tp 13 12 fM (kH (bU s nr my bf dn kd R.length ((R.map rwE).flatten)) 27 28 11 12 xl xb) .ret (bX (bX (bX (bX (bU s D7 my bf dn kd R'.length ((R'.map rwE).flatten)) 5 (some (.box 158 [(pI kd),(.own 12),(pI (((nr+1):Nat):Int)),(pI 1),(pI 5)]))) 2 (some (.box 3 [(pI (((nr+1):Nat):Int))]))) 3 (some (.box 3 [(pI 1)]))) 4 (some (.box 27 [(pI 5)]))).m:=by
 subst Cf
 have raw:cC Tp 13 12 fM (kH (bU s nr my bf dn kd R.length ((R.map rwE).flatten)) 27 28 11 12 xl xb) .ret (bX (bX (bX (bX (bU s (nr+1) my bf dn kd (R.length+1) (((R.map rwE).flatten)++[(PV.sl Af.length ((Af.map cE).flatten))])) 5 (some (.box 158 [(pI kd),(.own 12),(pI (((nr+1):Nat):Int)),(pI 1),(pI 5)]))) 2 (some (.box 3 [(pI (((nr+1):Nat):Int))]))) 3 (some (.box 3 [(pI 1)]))) 4 (some (.box 27 [(pI 5)]))).m:=⟨⟨fr 149 [(1,(.ptr 0 0)),(2,(.ptr 1 0)),(3,(.ptr 2 0)),(4,(.ptr 3 0)),(5,(.ptr 4 0)),(6,(.ptr 6 0)),(7,(.ptr 7 0)),(8,(.ptr 8 0)),(9,(.ptr 9 0)),(10,(.ptr 10 0)),(24,(.ptr 5 0)),(26,(.fn 175 [] [(.ptr 11 0)]))],[some (.box 9 [(.p (aC s))]),some (.box 26 [(pI 0),(.p bM)]),some (.box 3 [(pI (((nr+1):Nat):Int))]),some (.box 3 [(pI 1)]),some (.box 27 [(pI 5)]),some (.box 158 [(pI kd),(.own 13),(pI (((nr+1):Nat):Int)),(pI 1),(pI 5)]),some (.box 156 [(.ptr 5 0)]),some (.box 3 [(pI (((nr+1):Nat):Int))]),some (.box 3 [(pI my)]),some (.box 3 [(pI (bf:Int))]),some (.box 4 [(pB dn)]),some .dead,some .dead,some (.row 78 (R.length+1) (((R.map rwE).flatten)++[(PV.sl Af.length ((Af.map cE).flatten))]))]⟩,⟨[],[13],[],[]⟩,aA.fin (g:=⟨(rng [(0,1),(11,13),(25,1),(27,109),(142,1)]),[17],[],[]⟩) (o:=[.c (.fn 176 [] [(.ptr 13 0),(.ptr 14 0)]) [(5,(.box 158 [(pI kd),(.own 12),(pI 0),(pI 0),(pI 0)])),(12,(.row 78 R.length ((R.map rwE).flatten))),(13,(.box 156 [(.ptr 5 0)])),(14,(.box 3 [(pI (((nr+1):Nat):Int))]))],.c (.p (.sl ((aW xl ([32]:List UInt8)).length) (((aW xl ([32]:List UInt8)).map stE).flatten))) [],bF,bF,bF,bF,bF,bT,.c (.tup [(.own 15),(pB true)]) [(5,(.box 158 [(pI kd),(.own 12),(pI 0),(pI 0),(pI 0)])),(12,(.row 78 R.length ((R.map rwE).flatten))),(13,(.box 156 [(.ptr 5 0)])),(14,(.box 3 [(pI (((nr+1):Nat):Int))])),(15,(.row 80 Af.length ((Af.map cE).flatten)))],bT,bT,.x (.sl Ay.length ((Ay.map cE).flatten)),.c (pI 0) [],.c (pB false) [(13,(.box 156 [(.ptr 5 0)])),(14,(.box 3 [(pI (((nr+1):Nat):Int))])),(5,(.box 158 [(pI kd),(.own 12),(pI (((nr+1):Nat):Int)),(pI 1),(pI 5)])),(12,(.row 78 R.length ((R.map rwE).flatten)))],bT,.c (.tup [(.p (.agg [(aB 0),bM])),(pI (((nr+1):Nat):Int)),(pI 1),(pI 5)]) [(5,(.box 158 [(pI kd),(.own 17),(pI (((nr+1):Nat):Int)),(pI 1),(pI 5)])),(17,(.row 78 (R.length+1) (((R.map rwE).flatten)++[(PV.sl Af.length ((Af.map cE).flatten))])))]]) (l:=[FC Tp 94 [(.ptr 5 0)] [(5,(.box 158 [(pI kd),(.own 17),(pI (((nr+1):Nat):Int)),(pI 1),(pI 5)])),(17,(.row 78 (R.length+1) (((R.map rwE).flatten)++[(PV.sl Af.length ((Af.map cE).flatten))])))] 18 (.tup [(.p (.agg [(aB 0),bM])),(pI (((nr+1):Nat):Int)),(pI 1),(pI 5)]) [(5,(.box 158 [(pI kd),(.own 17),(pI (((nr+1):Nat):Int)),(pI 1),(pI 5)])),(17,(.row 78 (R.length+1) (((R.map rwE).flatten)++[(PV.sl Af.length ((Af.map cE).flatten))])))],((5:Int) != 0)=true,_,FC Tp 176 [(pI 1),(pI 5),(.ptr 13 0),(.ptr 14 0)] [(13,(.box 156 [(.ptr 5 0)])),(14,(.box 3 [(pI (((nr+1):Nat):Int))])),(5,(.box 158 [(pI kd),(.own 12),(pI 0),(pI 0),(pI 0)])),(12,(.row 78 R.length ((R.map rwE).flatten)))] 25 (pB false) [(13,(.box 156 [(.ptr 5 0)])),(14,(.box 3 [(pI (((nr+1):Nat):Int))])),(5,(.box 158 [(pI kd),(.own 12),(pI (((nr+1):Nat):Int)),(pI 1),(pI 5)])),(12,(.row 78 R.length ((R.map rwE).flatten)))],0≤(1:Int)∧(1:Int)<3,inR 1,FC Tp 92 [(pI kd),(.p (.sl Ay.length ((Ay.map cE).flatten))),(.own 15)] [(15,(.row 80 Af.length ((Af.map cE).flatten)))] 17 (pI 0) [],((R.map rwE).flatten)[(((R.length:Int)-1).toNat*1)]? = some (.sl Ay.length ((Ay.map cE).flatten)),_,_,_,true=true,FC Tp 91 [(.ptr 5 0),(.p (.sl ((aW xl ([32]:List UInt8)).length) (((aW xl ([32]:List UInt8)).map stE).flatten))),(.fn 176 [] [(.ptr 13 0),(.ptr 14 0)])] [(5,(.box 158 [(pI kd),(.own 12),(pI 0),(pI 0),(pI 0)])),(13,(.box 156 [(.ptr 5 0)])),(14,(.box 3 [(pI (((nr+1):Nat):Int))])),(12,(.row 78 R.length ((R.map rwE).flatten)))] 15 (.tup [(.own 15),(pB true)]) [(5,(.box 158 [(pI kd),(.own 12),(pI 0),(pI 0),(pI 0)])),(12,(.row 78 R.length ((R.map rwE).flatten))),(13,(.box 156 [(.ptr 5 0)])),(14,(.box 3 [(pI (((nr+1):Nat):Int))])),(15,(.row 80 Af.length ((Af.map cE).flatten)))],_,_,_,_,_,_,_,_,FC Tp 89 [(.ptr 5 0),(pI (((nr+1):Nat):Int))] [(5,(.box 158 [(pI kd),(.own 12),(pI 0),(pI 0),(pI 0)])),(12,(.row 78 R.length ((R.map rwE).flatten)))] 13 (.fn 176 [] [(.ptr 13 0),(.ptr 14 0)]) [(5,(.box 158 [(pI kd),(.own 12),(pI 0),(pI 0),(pI 0)])),(12,(.row 78 R.length ((R.map rwE).flatten))),(13,(.box 156 [(.ptr 5 0)])),(14,(.box 3 [(pI (((nr+1):Nat):Int))]))],_]) (by kernel_rfl) (gc (FMM.fc (ids:=[5,17]) (kT (k:=kd) (l:=(((nr+1):Nat):Int)) (f:=(1:Int)) (e:=(5:Int)) (n:=(R.length+1)) (cs:=(((R.map rwE).flatten)++[(PV.sl Af.length ((Af.map cE).flatten))])) (by decide)) (by kernel_rfl)) (gc (by first | decide | simp) (gc Fy (gc (FMM.fc (ids:=[13,14,5,12]) (cU 1 5 (((nr+1):Nat):Int) kd 0 0 0 R) (by kernel_rfl)) (gc (by first | decide | simp) (gc (by show _∧_;omega) (gc (fv (aPy kd Ay Af Dd Ea Ek)) (gc (aQ (E:=rwE) (i:=((R.length:Int)-1).toNat) (f:=0) (k:=1) (fun _=>rfl) Cs rfl) (gc B1 (gc Be (gc (bJ Bt) (gc rfl (gc (FMM.fcN (k:=1) rfl (ids:=[5,12,13,14]) (lS (((nr+1):Nat):Int) R 0 0 He Hf E7) (by kernel_rfl)) (gc (gO h7) (gc h6 (gc (bA h5) (gc (aO h4) (Ap h3 (gc (fk 15 (fB xl ([32]:List UInt8) h1 h2) rfl) (gc (FMM.fcN (k:=2) rfl (ids:=[5,12]) (fI (ln:=(((nr+1):Nat):Int)) (k:=kd) (l:=(0:Int)) (f:=(0:Int)) (e:=(0:Int)) (R:=R)) (by kernel_rfl)) (gc h0 gn))))))))))))))))))))),by kernel_rfl,(⟨fr 149 [(1,(.ptr 0 0)),(2,(.ptr 1 0)),(3,(.ptr 2 0)),(4,(.ptr 3 0)),(5,(.ptr 4 0)),(6,(.ptr 6 0)),(7,(.ptr 7 0)),(8,(.ptr 8 0)),(9,(.ptr 9 0)),(10,(.ptr 10 0)),(24,(.ptr 5 0)),(26,(.fn 175 [] [(.ptr 11 0)]))],[some (.box 9 [(.p (aC s))]),some (.box 26 [(pI 0),(.p bM)]),some (.box 3 [(pI (((nr+1):Nat):Int))]),some (.box 3 [(pI 1)]),some (.box 27 [(pI 5)]),some (.box 158 [(pI kd),(.own 13),(pI (((nr+1):Nat):Int)),(pI 1),(pI 5)]),some (.box 156 [(.ptr 5 0)]),some (.box 3 [(pI (((nr+1):Nat):Int))]),some (.box 3 [(pI my)]),some (.box 3 [(pI (bf:Int))]),some (.box 4 [(pB dn)]),some .dead,some .dead,some (.row 78 (R.length+1) (((R.map rwE).flatten)++[(PV.sl Af.length ((Af.map cE).flatten))]))]⟩:St).t,by kernel_rfl⟩
 exact raw.cast (by rw [Cv,Cw])
theorem bBd{s:List UInt8}{R:List (List Cel)}{xl:List UInt8}{Af Ay:List Cel}{R':List (List Cel)}(h0:inR (((nr+1):Nat):Int))(h1:xl.length<4294967281)(h2:1≤([32]:List UInt8).length)(h3:dn=false)(h4:xb=true)(h5:(((nr+1):Nat):Int)≠1)(h6:inR (my+1))(h7:(((nr+1):Nat):Int)≤(my+1))(He:∀ u∈(aW xl ([32]:List UInt8)),u.length≤90000)(Hf:rdL (aK kd) (aW xl ([32]:List UInt8)) 0 = .inl Af)(E7:(aW xl ([32]:List UInt8)).length=(aK kd).length)(Bt:(0:Int)<(R.length:Int))(Be:inR ((R.length:Int)-1))(B1:0≤((R.length:Int)-1)∧((R.length:Int)-1)<(R.length:Int))(Cs:R[((R.length:Int)-1).toNat]? = some (Ay))(Dd:aN kd≤(Ay.length:Int))(Ea:aN kd≤(Af.length:Int))(Ek:bV kd Ay Af=1)(Fy:[(PV.sl Af.length ((Af.map cE).flatten))].length=1*1∧R.length+1≤1000000)(Cf:D7=(nr+1))(Cv:R'.length=(R.length+1))(Cw:(R'.map rwE).flatten=(((R.map rwE).flatten)++[(PV.sl Af.length ((Af.map cE).flatten))])):cC Tp 13 12 fM (kH (bU s nr my bf dn kd R.length ((R.map rwE).flatten)) 27 28 11 12 xl xb) .ret (bX (bX (bX (bX (bU s D7 my bf dn kd R'.length ((R'.map rwE).flatten)) 5 (some (.box 158 [(pI kd),(.own 12),(pI (((nr+1):Nat):Int)),(pI 1),(pI 4)]))) 2 (some (.box 3 [(pI (((nr+1):Nat):Int))]))) 3 (some (.box 3 [(pI 1)]))) 4 (some (.box 27 [(pI 4)]))).m:=by
 subst Cf
 have raw:cC Tp 13 12 fM (kH (bU s nr my bf dn kd R.length ((R.map rwE).flatten)) 27 28 11 12 xl xb) .ret (bX (bX (bX (bX (bU s (nr+1) my bf dn kd (R.length+1) (((R.map rwE).flatten)++[(PV.sl Af.length ((Af.map cE).flatten))])) 5 (some (.box 158 [(pI kd),(.own 12),(pI (((nr+1):Nat):Int)),(pI 1),(pI 4)]))) 2 (some (.box 3 [(pI (((nr+1):Nat):Int))]))) 3 (some (.box 3 [(pI 1)]))) 4 (some (.box 27 [(pI 4)]))).m:=⟨⟨fr 149 [(1,(.ptr 0 0)),(2,(.ptr 1 0)),(3,(.ptr 2 0)),(4,(.ptr 3 0)),(5,(.ptr 4 0)),(6,(.ptr 6 0)),(7,(.ptr 7 0)),(8,(.ptr 8 0)),(9,(.ptr 9 0)),(10,(.ptr 10 0)),(24,(.ptr 5 0)),(26,(.fn 175 [] [(.ptr 11 0)]))],[some (.box 9 [(.p (aC s))]),some (.box 26 [(pI 0),(.p bM)]),some (.box 3 [(pI (((nr+1):Nat):Int))]),some (.box 3 [(pI 1)]),some (.box 27 [(pI 4)]),some (.box 158 [(pI kd),(.own 13),(pI (((nr+1):Nat):Int)),(pI 1),(pI 4)]),some (.box 156 [(.ptr 5 0)]),some (.box 3 [(pI (((nr+1):Nat):Int))]),some (.box 3 [(pI my)]),some (.box 3 [(pI (bf:Int))]),some (.box 4 [(pB dn)]),some .dead,some .dead,some (.row 78 (R.length+1) (((R.map rwE).flatten)++[(PV.sl Af.length ((Af.map cE).flatten))]))]⟩,⟨[],[13],[],[]⟩,aA.fin (g:=⟨(rng [(0,1),(11,13),(25,1),(27,109),(142,1)]),[17],[],[]⟩) (o:=[.c (.fn 176 [] [(.ptr 13 0),(.ptr 14 0)]) [(5,(.box 158 [(pI kd),(.own 12),(pI 0),(pI 0),(pI 0)])),(12,(.row 78 R.length ((R.map rwE).flatten))),(13,(.box 156 [(.ptr 5 0)])),(14,(.box 3 [(pI (((nr+1):Nat):Int))]))],.c (.p (.sl ((aW xl ([32]:List UInt8)).length) (((aW xl ([32]:List UInt8)).map stE).flatten))) [],bF,bF,bF,bF,bF,bT,.c (.tup [(.own 15),(pB true)]) [(5,(.box 158 [(pI kd),(.own 12),(pI 0),(pI 0),(pI 0)])),(12,(.row 78 R.length ((R.map rwE).flatten))),(13,(.box 156 [(.ptr 5 0)])),(14,(.box 3 [(pI (((nr+1):Nat):Int))])),(15,(.row 80 Af.length ((Af.map cE).flatten)))],bT,bT,.x (.sl Ay.length ((Ay.map cE).flatten)),.c (pI 1) [],.c (pB false) [(13,(.box 156 [(.ptr 5 0)])),(14,(.box 3 [(pI (((nr+1):Nat):Int))])),(5,(.box 158 [(pI kd),(.own 12),(pI (((nr+1):Nat):Int)),(pI 1),(pI 4)])),(12,(.row 78 R.length ((R.map rwE).flatten)))],bT,.c (.tup [(.p (.agg [(aB 0),bM])),(pI (((nr+1):Nat):Int)),(pI 1),(pI 4)]) [(5,(.box 158 [(pI kd),(.own 17),(pI (((nr+1):Nat):Int)),(pI 1),(pI 4)])),(17,(.row 78 (R.length+1) (((R.map rwE).flatten)++[(PV.sl Af.length ((Af.map cE).flatten))])))]]) (l:=[FC Tp 94 [(.ptr 5 0)] [(5,(.box 158 [(pI kd),(.own 17),(pI (((nr+1):Nat):Int)),(pI 1),(pI 4)])),(17,(.row 78 (R.length+1) (((R.map rwE).flatten)++[(PV.sl Af.length ((Af.map cE).flatten))])))] 18 (.tup [(.p (.agg [(aB 0),bM])),(pI (((nr+1):Nat):Int)),(pI 1),(pI 4)]) [(5,(.box 158 [(pI kd),(.own 17),(pI (((nr+1):Nat):Int)),(pI 1),(pI 4)])),(17,(.row 78 (R.length+1) (((R.map rwE).flatten)++[(PV.sl Af.length ((Af.map cE).flatten))])))],((4:Int) != 0)=true,_,FC Tp 176 [(pI 1),(pI 4),(.ptr 13 0),(.ptr 14 0)] [(13,(.box 156 [(.ptr 5 0)])),(14,(.box 3 [(pI (((nr+1):Nat):Int))])),(5,(.box 158 [(pI kd),(.own 12),(pI 0),(pI 0),(pI 0)])),(12,(.row 78 R.length ((R.map rwE).flatten)))] 25 (pB false) [(13,(.box 156 [(.ptr 5 0)])),(14,(.box 3 [(pI (((nr+1):Nat):Int))])),(5,(.box 158 [(pI kd),(.own 12),(pI (((nr+1):Nat):Int)),(pI 1),(pI 4)])),(12,(.row 78 R.length ((R.map rwE).flatten)))],0≤(2:Int)∧(2:Int)<3,inR 2,FC Tp 92 [(pI kd),(.p (.sl Ay.length ((Ay.map cE).flatten))),(.own 15)] [(15,(.row 80 Af.length ((Af.map cE).flatten)))] 17 (pI 1) [],((R.map rwE).flatten)[(((R.length:Int)-1).toNat*1)]? = some (.sl Ay.length ((Ay.map cE).flatten)),_,_,_,true=true,FC Tp 91 [(.ptr 5 0),(.p (.sl ((aW xl ([32]:List UInt8)).length) (((aW xl ([32]:List UInt8)).map stE).flatten))),(.fn 176 [] [(.ptr 13 0),(.ptr 14 0)])] [(5,(.box 158 [(pI kd),(.own 12),(pI 0),(pI 0),(pI 0)])),(13,(.box 156 [(.ptr 5 0)])),(14,(.box 3 [(pI (((nr+1):Nat):Int))])),(12,(.row 78 R.length ((R.map rwE).flatten)))] 15 (.tup [(.own 15),(pB true)]) [(5,(.box 158 [(pI kd),(.own 12),(pI 0),(pI 0),(pI 0)])),(12,(.row 78 R.length ((R.map rwE).flatten))),(13,(.box 156 [(.ptr 5 0)])),(14,(.box 3 [(pI (((nr+1):Nat):Int))])),(15,(.row 80 Af.length ((Af.map cE).flatten)))],_,_,_,_,_,_,_,_,FC Tp 89 [(.ptr 5 0),(pI (((nr+1):Nat):Int))] [(5,(.box 158 [(pI kd),(.own 12),(pI 0),(pI 0),(pI 0)])),(12,(.row 78 R.length ((R.map rwE).flatten)))] 13 (.fn 176 [] [(.ptr 13 0),(.ptr 14 0)]) [(5,(.box 158 [(pI kd),(.own 12),(pI 0),(pI 0),(pI 0)])),(12,(.row 78 R.length ((R.map rwE).flatten))),(13,(.box 156 [(.ptr 5 0)])),(14,(.box 3 [(pI (((nr+1):Nat):Int))]))],_]) (by kernel_rfl) (gc (FMM.fc (ids:=[5,17]) (kT (k:=kd) (l:=(((nr+1):Nat):Int)) (f:=(1:Int)) (e:=(4:Int)) (n:=(R.length+1)) (cs:=(((R.map rwE).flatten)++[(PV.sl Af.length ((Af.map cE).flatten))])) (by decide)) (by kernel_rfl)) (gc (by first | decide | simp) (gc Fy (gc (FMM.fc (ids:=[13,14,5,12]) (cU 1 4 (((nr+1):Nat):Int) kd 0 0 0 R) (by kernel_rfl)) (gc (by first | decide | simp) (gc (by show _∧_;omega) (gc (fv (aPy kd Ay Af Dd Ea Ek)) (gc (aQ (E:=rwE) (i:=((R.length:Int)-1).toNat) (f:=0) (k:=1) (fun _=>rfl) Cs rfl) (gc B1 (gc Be (gc (bJ Bt) (gc rfl (gc (FMM.fcN (k:=1) rfl (ids:=[5,12,13,14]) (lS (((nr+1):Nat):Int) R 0 0 He Hf E7) (by kernel_rfl)) (gc (gO h7) (gc h6 (gc (bA h5) (gc (aO h4) (Ap h3 (gc (fk 15 (fB xl ([32]:List UInt8) h1 h2) rfl) (gc (FMM.fcN (k:=2) rfl (ids:=[5,12]) (fI (ln:=(((nr+1):Nat):Int)) (k:=kd) (l:=(0:Int)) (f:=(0:Int)) (e:=(0:Int)) (R:=R)) (by kernel_rfl)) (gc h0 gn))))))))))))))))))))),by kernel_rfl,(⟨fr 149 [(1,(.ptr 0 0)),(2,(.ptr 1 0)),(3,(.ptr 2 0)),(4,(.ptr 3 0)),(5,(.ptr 4 0)),(6,(.ptr 6 0)),(7,(.ptr 7 0)),(8,(.ptr 8 0)),(9,(.ptr 9 0)),(10,(.ptr 10 0)),(24,(.ptr 5 0)),(26,(.fn 175 [] [(.ptr 11 0)]))],[some (.box 9 [(.p (aC s))]),some (.box 26 [(pI 0),(.p bM)]),some (.box 3 [(pI (((nr+1):Nat):Int))]),some (.box 3 [(pI 1)]),some (.box 27 [(pI 4)]),some (.box 158 [(pI kd),(.own 13),(pI (((nr+1):Nat):Int)),(pI 1),(pI 4)]),some (.box 156 [(.ptr 5 0)]),some (.box 3 [(pI (((nr+1):Nat):Int))]),some (.box 3 [(pI my)]),some (.box 3 [(pI (bf:Int))]),some (.box 4 [(pB dn)]),some .dead,some .dead,some (.row 78 (R.length+1) (((R.map rwE).flatten)++[(PV.sl Af.length ((Af.map cE).flatten))]))]⟩:St).t,by kernel_rfl⟩
 exact raw.cast (by rw [Cv,Cw])
theorem bBe{s:List UInt8}{R:List (List Cel)}{xl:List UInt8}{Af:List Cel}{R':List (List Cel)}(h0:inR (((nr+1):Nat):Int))(h1:xl.length<4294967281)(h2:1≤([32]:List UInt8).length)(h3:dn=false)(h4:xb=true)(h5:(((nr+1):Nat):Int)≠1)(h6:inR (my+1))(h7:(((nr+1):Nat):Int)≤(my+1))(He:∀ u∈(aW xl ([32]:List UInt8)),u.length≤90000)(Hf:rdL (aK kd) (aW xl ([32]:List UInt8)) 0 = .inl Af)(E7:(aW xl ([32]:List UInt8)).length=(aK kd).length)(Bt:(R.length:Int)≤0)(Be:[(PV.sl Af.length ((Af.map cE).flatten))].length=1*1∧R.length+1≤1000000)(B1:inR (((xl.length+1):Nat):Int))(Cs:inR (((bf+(xl.length+1)):Nat):Int))(Cf:D7=(nr+1))(F6:Ir=(bf+(xl.length+1)))(Cv:R'.length=(R.length+1))(Cw:(R'.map rwE).flatten=(((R.map rwE).flatten)++[(PV.sl Af.length ((Af.map cE).flatten))])):cC Tp 13 12 fM (kH (bU s nr my bf dn kd R.length ((R.map rwE).flatten)) 27 28 11 12 xl xb) .normal (bU s D7 my Ir dn kd R'.length ((R'.map rwE).flatten)).m:=by
 subst Cf F6
 have raw:cC Tp 13 12 fM (kH (bU s nr my bf dn kd R.length ((R.map rwE).flatten)) 27 28 11 12 xl xb) .normal (bU s (nr+1) my (bf+(xl.length+1)) dn kd (R.length+1) (((R.map rwE).flatten)++[(PV.sl Af.length ((Af.map cE).flatten))])).m:=⟨⟨fr 149 [(1,(.ptr 0 0)),(2,(.ptr 1 0)),(3,(.ptr 2 0)),(4,(.ptr 3 0)),(5,(.ptr 4 0)),(6,(.ptr 6 0)),(7,(.ptr 7 0)),(8,(.ptr 8 0)),(9,(.ptr 9 0)),(10,(.ptr 10 0)),(24,(.ptr 5 0)),(26,(.fn 175 [] [(.ptr 11 0)]))],[some (.box 9 [(.p (aC s))]),some (.box 26 [(pI 0),(.p bM)]),some (.box 3 [(pI 0)]),some (.box 3 [(pI 0)]),some (.box 27 [(pI 0)]),some (.box 158 [(pI kd),(.own 13),(pI 0),(pI 0),(pI 0)]),some (.box 156 [(.ptr 5 0)]),some (.box 3 [(pI (((nr+1):Nat):Int))]),some (.box 3 [(pI my)]),some (.box 3 [(pI (((bf+(xl.length+1)):Nat):Int))]),some (.box 4 [(pB dn)]),some .dead,some .dead,some (.row 78 (R.length+1) (((R.map rwE).flatten)++[(PV.sl Af.length ((Af.map cE).flatten))]))]⟩,⟨[],[13],[],[]⟩,aA.fin (g:=⟨(rng [(0,1),(11,13),(25,1),(27,109),(142,1)]),[17],[],[]⟩) (o:=[.c (.fn 176 [] [(.ptr 13 0),(.ptr 14 0)]) [(5,(.box 158 [(pI kd),(.own 12),(pI 0),(pI 0),(pI 0)])),(12,(.row 78 R.length ((R.map rwE).flatten))),(13,(.box 156 [(.ptr 5 0)])),(14,(.box 3 [(pI (((nr+1):Nat):Int))]))],.c (.p (.sl ((aW xl ([32]:List UInt8)).length) (((aW xl ([32]:List UInt8)).map stE).flatten))) [],bF,bF,bF,bF,bF,bT,.c (.tup [(.own 15),(pB true)]) [(5,(.box 158 [(pI kd),(.own 12),(pI 0),(pI 0),(pI 0)])),(12,(.row 78 R.length ((R.map rwE).flatten))),(13,(.box 156 [(.ptr 5 0)])),(14,(.box 3 [(pI (((nr+1):Nat):Int))])),(15,(.row 80 Af.length ((Af.map cE).flatten)))],bT,bF,bF]) (l:=[_,_,_,_,_,true=true,FC Tp 91 [(.ptr 5 0),(.p (.sl ((aW xl ([32]:List UInt8)).length) (((aW xl ([32]:List UInt8)).map stE).flatten))),(.fn 176 [] [(.ptr 13 0),(.ptr 14 0)])] [(5,(.box 158 [(pI kd),(.own 12),(pI 0),(pI 0),(pI 0)])),(13,(.box 156 [(.ptr 5 0)])),(14,(.box 3 [(pI (((nr+1):Nat):Int))])),(12,(.row 78 R.length ((R.map rwE).flatten)))] 15 (.tup [(.own 15),(pB true)]) [(5,(.box 158 [(pI kd),(.own 12),(pI 0),(pI 0),(pI 0)])),(12,(.row 78 R.length ((R.map rwE).flatten))),(13,(.box 156 [(.ptr 5 0)])),(14,(.box 3 [(pI (((nr+1):Nat):Int))])),(15,(.row 80 Af.length ((Af.map cE).flatten)))],_,_,_,_,_,_,_,_,FC Tp 89 [(.ptr 5 0),(pI (((nr+1):Nat):Int))] [(5,(.box 158 [(pI kd),(.own 12),(pI 0),(pI 0),(pI 0)])),(12,(.row 78 R.length ((R.map rwE).flatten)))] 13 (.fn 176 [] [(.ptr 13 0),(.ptr 14 0)]) [(5,(.box 158 [(pI kd),(.own 12),(pI 0),(pI 0),(pI 0)])),(12,(.row 78 R.length ((R.map rwE).flatten))),(13,(.box 156 [(.ptr 5 0)])),(14,(.box 3 [(pI (((nr+1):Nat):Int))]))],_]) (by kernel_rfl) (gc Cs (gc B1 (gc aSw (gc Be (gc (aJ Bt) (gc rfl (gc (FMM.fcN (k:=1) rfl (ids:=[5,12,13,14]) (lS (((nr+1):Nat):Int) R 0 0 He Hf E7) (by kernel_rfl)) (gc (gO h7) (gc h6 (gc (bA h5) (gc (aO h4) (Ap h3 (gc (fk 15 (fB xl ([32]:List UInt8) h1 h2) rfl) (gc (FMM.fcN (k:=2) rfl (ids:=[5,12]) (fI (ln:=(((nr+1):Nat):Int)) (k:=kd) (l:=(0:Int)) (f:=(0:Int)) (e:=(0:Int)) (R:=R)) (by kernel_rfl)) (gc h0 gn))))))))))))))),by kernel_rfl,(⟨fr 149 [(1,(.ptr 0 0)),(2,(.ptr 1 0)),(3,(.ptr 2 0)),(4,(.ptr 3 0)),(5,(.ptr 4 0)),(6,(.ptr 6 0)),(7,(.ptr 7 0)),(8,(.ptr 8 0)),(9,(.ptr 9 0)),(10,(.ptr 10 0)),(24,(.ptr 5 0)),(26,(.fn 175 [] [(.ptr 11 0)]))],[some (.box 9 [(.p (aC s))]),some (.box 26 [(pI 0),(.p bM)]),some (.box 3 [(pI 0)]),some (.box 3 [(pI 0)]),some (.box 27 [(pI 0)]),some (.box 158 [(pI kd),(.own 13),(pI 0),(pI 0),(pI 0)]),some (.box 156 [(.ptr 5 0)]),some (.box 3 [(pI (((nr+1):Nat):Int))]),some (.box 3 [(pI my)]),some (.box 3 [(pI (((bf+(xl.length+1)):Nat):Int))]),some (.box 4 [(pB dn)]),some .dead,some .dead,some (.row 78 (R.length+1) (((R.map rwE).flatten)++[(PV.sl Af.length ((Af.map cE).flatten))]))]⟩:St).t,by kernel_rfl⟩
 exact raw.cast (by rw [Cv,Cw])
theorem bBf{s:List UInt8}{R:List (List Cel)}{xl:List UInt8}{Af:List Cel}(h0:inR (((nr+1):Nat):Int))(h1:xl.length<4294967281)(h2:1≤([32]:List UInt8).length)(h3:dn=false)(h4:xb=true)(h5:(((nr+1):Nat):Int)≠1)(h6:inR (my+1))(h7:(((nr+1):Nat):Int)≤(my+1))(He:∀ u∈(aW xl ([32]:List UInt8)),u.length≤90000)(Hf:rdL (aK kd) (aW xl ([32]:List UInt8)) 0 = .inl Af)(E7:(aW xl ([32]:List UInt8)).length≠(aK kd).length)(Cf:D7=(nr+1)):cC Tp 13 12 fM (kH (bU s nr my bf dn kd R.length ((R.map rwE).flatten)) 27 28 11 12 xl xb) .ret (bX (bX (bX (bX (bU s D7 my bf dn kd R.length ((R.map rwE).flatten)) 5 (some (.box 158 [(pI kd),(.own 12),(pI (((nr+1):Nat):Int)),(pI (((aK kd).length+1:Nat):Int)),(pI 11)]))) 2 (some (.box 3 [(pI (((nr+1):Nat):Int))]))) 3 (some (.box 3 [(pI (((aK kd).length+1:Nat):Int))]))) 4 (some (.box 27 [(pI 11)]))).m:=by
 subst Cf
 have raw:cC Tp 13 12 fM (kH (bU s nr my bf dn kd R.length ((R.map rwE).flatten)) 27 28 11 12 xl xb) .ret (bX (bX (bX (bX (bU s (nr+1) my bf dn kd R.length ((R.map rwE).flatten)) 5 (some (.box 158 [(pI kd),(.own 12),(pI (((nr+1):Nat):Int)),(pI (((aK kd).length+1:Nat):Int)),(pI 11)]))) 2 (some (.box 3 [(pI (((nr+1):Nat):Int))]))) 3 (some (.box 3 [(pI (((aK kd).length+1:Nat):Int))]))) 4 (some (.box 27 [(pI 11)]))).m:=⟨⟨fr 149 [(1,(.ptr 0 0)),(2,(.ptr 1 0)),(3,(.ptr 2 0)),(4,(.ptr 3 0)),(5,(.ptr 4 0)),(6,(.ptr 6 0)),(7,(.ptr 7 0)),(8,(.ptr 8 0)),(9,(.ptr 9 0)),(10,(.ptr 10 0)),(24,(.ptr 5 0)),(26,(.fn 175 [] [(.ptr 11 0)]))],[some (.box 9 [(.p (aC s))]),some (.box 26 [(pI 0),(.p bM)]),some (.box 3 [(pI (((nr+1):Nat):Int))]),some (.box 3 [(pI (((aK kd).length+1:Nat):Int))]),some (.box 27 [(pI 11)]),some (.box 158 [(pI kd),(.own 12),(pI (((nr+1):Nat):Int)),(pI (((aK kd).length+1:Nat):Int)),(pI 11)]),some (.box 156 [(.ptr 5 0)]),some (.box 3 [(pI (((nr+1):Nat):Int))]),some (.box 3 [(pI my)]),some (.box 3 [(pI (bf:Int))]),some (.box 4 [(pB dn)]),some .dead,some (.row 78 R.length ((R.map rwE).flatten))]⟩,⟨[],[12],[],[]⟩,aA.fin (g:=⟨(rng [(0,1),(11,13),(25,1),(27,109),(142,1)]),[],[],[]⟩) (o:=[.c (.fn 176 [] [(.ptr 13 0),(.ptr 14 0)]) [(5,(.box 158 [(pI kd),(.own 12),(pI 0),(pI 0),(pI 0)])),(12,(.row 78 R.length ((R.map rwE).flatten))),(13,(.box 156 [(.ptr 5 0)])),(14,(.box 3 [(pI (((nr+1):Nat):Int))]))],.c (.p (.sl ((aW xl ([32]:List UInt8)).length) (((aW xl ([32]:List UInt8)).map stE).flatten))) [],bF,bF,bF,bF,bF,bT,.c (.tup [(.own 15),(pB false)]) [(5,(.box 158 [(pI kd),(.own 12),(pI (((nr+1):Nat):Int)),(pI (((aK kd).length+1:Nat):Int)),(pI 11)])),(12,(.row 78 R.length ((R.map rwE).flatten))),(13,(.box 156 [(.ptr 5 0)])),(14,(.box 3 [(pI (((nr+1):Nat):Int))])),(15,(.row 80 Af.length ((Af.map cE).flatten)))],bF,bT,.c (.tup [(.p (.agg [(aB 0),bM])),(pI (((nr+1):Nat):Int)),(pI (((aK kd).length+1:Nat):Int)),(pI 11)]) [(5,(.box 158 [(pI kd),(.own 12),(pI (((nr+1):Nat):Int)),(pI (((aK kd).length+1:Nat):Int)),(pI 11)])),(12,(.row 78 R.length ((R.map rwE).flatten)))]]) (l:=[FC Tp 94 [(.ptr 5 0)] [(5,(.box 158 [(pI kd),(.own 12),(pI (((nr+1):Nat):Int)),(pI (((aK kd).length+1:Nat):Int)),(pI 11)])),(12,(.row 78 R.length ((R.map rwE).flatten)))] 16 (.tup [(.p (.agg [(aB 0),bM])),(pI (((nr+1):Nat):Int)),(pI (((aK kd).length+1:Nat):Int)),(pI 11)]) [(5,(.box 158 [(pI kd),(.own 12),(pI (((nr+1):Nat):Int)),(pI (((aK kd).length+1:Nat):Int)),(pI 11)])),(12,(.row 78 R.length ((R.map rwE).flatten)))],_,false=false,FC Tp 91 [(.ptr 5 0),(.p (.sl ((aW xl ([32]:List UInt8)).length) (((aW xl ([32]:List UInt8)).map stE).flatten))),(.fn 176 [] [(.ptr 13 0),(.ptr 14 0)])] [(5,(.box 158 [(pI kd),(.own 12),(pI 0),(pI 0),(pI 0)])),(13,(.box 156 [(.ptr 5 0)])),(14,(.box 3 [(pI (((nr+1):Nat):Int))])),(12,(.row 78 R.length ((R.map rwE).flatten)))] 15 (.tup [(.own 15),(pB false)]) [(5,(.box 158 [(pI kd),(.own 12),(pI (((nr+1):Nat):Int)),(pI (((aK kd).length+1:Nat):Int)),(pI 11)])),(12,(.row 78 R.length ((R.map rwE).flatten))),(13,(.box 156 [(.ptr 5 0)])),(14,(.box 3 [(pI (((nr+1):Nat):Int))])),(15,(.row 80 Af.length ((Af.map cE).flatten)))],_,_,_,_,_,_,_,_,FC Tp 89 [(.ptr 5 0),(pI (((nr+1):Nat):Int))] [(5,(.box 158 [(pI kd),(.own 12),(pI 0),(pI 0),(pI 0)])),(12,(.row 78 R.length ((R.map rwE).flatten)))] 13 (.fn 176 [] [(.ptr 13 0),(.ptr 14 0)]) [(5,(.box 158 [(pI kd),(.own 12),(pI 0),(pI 0),(pI 0)])),(12,(.row 78 R.length ((R.map rwE).flatten))),(13,(.box 156 [(.ptr 5 0)])),(14,(.box 3 [(pI (((nr+1):Nat):Int))]))],_]) (by kernel_rfl) (gc (FMM.fc (ids:=[5,12]) (kT (k:=kd) (l:=(((nr+1):Nat):Int)) (f:=(((aK kd).length+1:Nat):Int)) (e:=(11:Int)) (n:=R.length) (cs:=((R.map rwE).flatten)) (by decide)) (by kernel_rfl)) (gc bJb (gc rfl (gc (FMM.fcN (k:=1) rfl (ids:=[5,12,13,14]) (aKm (((nr+1):Nat):Int) R 0 0 He Hf E7) (by kernel_rfl)) (gc (gO h7) (gc h6 (gc (bA h5) (gc (aO h4) (Ap h3 (gc (fk 15 (fB xl ([32]:List UInt8) h1 h2) rfl) (gc (FMM.fcN (k:=2) rfl (ids:=[5,12]) (fI (ln:=(((nr+1):Nat):Int)) (k:=kd) (l:=(0:Int)) (f:=(0:Int)) (e:=(0:Int)) (R:=R)) (by kernel_rfl)) (gc h0 gn)))))))))))),by kernel_rfl,(⟨fr 149 [(1,(.ptr 0 0)),(2,(.ptr 1 0)),(3,(.ptr 2 0)),(4,(.ptr 3 0)),(5,(.ptr 4 0)),(6,(.ptr 6 0)),(7,(.ptr 7 0)),(8,(.ptr 8 0)),(9,(.ptr 9 0)),(10,(.ptr 10 0)),(24,(.ptr 5 0)),(26,(.fn 175 [] [(.ptr 11 0)]))],[some (.box 9 [(.p (aC s))]),some (.box 26 [(pI 0),(.p bM)]),some (.box 3 [(pI (((nr+1):Nat):Int))]),some (.box 3 [(pI (((aK kd).length+1:Nat):Int))]),some (.box 27 [(pI 11)]),some (.box 158 [(pI kd),(.own 12),(pI (((nr+1):Nat):Int)),(pI (((aK kd).length+1:Nat):Int)),(pI 11)]),some (.box 156 [(.ptr 5 0)]),some (.box 3 [(pI (((nr+1):Nat):Int))]),some (.box 3 [(pI my)]),some (.box 3 [(pI (bf:Int))]),some (.box 4 [(pB dn)]),some .dead,some (.row 78 R.length ((R.map rwE).flatten))]⟩:St).t,by kernel_rfl⟩
 exact raw
theorem aPz{s:List UInt8}{R:List (List Cel)}{xl:List UInt8}{B8 B3:Int}(h0:inR (((nr+1):Nat):Int))(h1:xl.length<4294967281)(h2:1≤([32]:List UInt8).length)(h3:dn=false)(h4:xb=true)(h5:(((nr+1):Nat):Int)≠1)(h6:inR (my+1))(h7:(((nr+1):Nat):Int)≤(my+1))(He:∀ u∈(aW xl ([32]:List UInt8)),u.length≤90000)(Hf:rdL (aK kd) (aW xl ([32]:List UInt8)) 0 = .inr (B8,B3))(Ba:B3≠0)(Cf:D7=(nr+1)):cC Tp 13 12 fM (kH (bU s nr my bf dn kd R.length ((R.map rwE).flatten)) 27 28 11 12 xl xb) .ret (bX (bX (bX (bX (bU s D7 my bf dn kd R.length ((R.map rwE).flatten)) 5 (some (.box 158 [(pI kd),(.own 12),(pI (((nr+1):Nat):Int)),(pI B8),(pI B3)]))) 2 (some (.box 3 [(pI (((nr+1):Nat):Int))]))) 3 (some (.box 3 [(pI B8)]))) 4 (some (.box 27 [(pI B3)]))).m:=by
 subst Cf
 have raw:cC Tp 13 12 fM (kH (bU s nr my bf dn kd R.length ((R.map rwE).flatten)) 27 28 11 12 xl xb) .ret (bX (bX (bX (bX (bU s (nr+1) my bf dn kd R.length ((R.map rwE).flatten)) 5 (some (.box 158 [(pI kd),(.own 12),(pI (((nr+1):Nat):Int)),(pI B8),(pI B3)]))) 2 (some (.box 3 [(pI (((nr+1):Nat):Int))]))) 3 (some (.box 3 [(pI B8)]))) 4 (some (.box 27 [(pI B3)]))).m:=⟨⟨fr 149 [(1,(.ptr 0 0)),(2,(.ptr 1 0)),(3,(.ptr 2 0)),(4,(.ptr 3 0)),(5,(.ptr 4 0)),(6,(.ptr 6 0)),(7,(.ptr 7 0)),(8,(.ptr 8 0)),(9,(.ptr 9 0)),(10,(.ptr 10 0)),(24,(.ptr 5 0)),(26,(.fn 175 [] [(.ptr 11 0)]))],[some (.box 9 [(.p (aC s))]),some (.box 26 [(pI 0),(.p bM)]),some (.box 3 [(pI (((nr+1):Nat):Int))]),some (.box 3 [(pI B8)]),some (.box 27 [(pI B3)]),some (.box 158 [(pI kd),(.own 12),(pI (((nr+1):Nat):Int)),(pI B8),(pI B3)]),some (.box 156 [(.ptr 5 0)]),some (.box 3 [(pI (((nr+1):Nat):Int))]),some (.box 3 [(pI my)]),some (.box 3 [(pI (bf:Int))]),some (.box 4 [(pB dn)]),some .dead,some (.row 78 R.length ((R.map rwE).flatten))]⟩,⟨[],[12],[],[]⟩,aA.fin (g:=⟨(rng [(0,1),(11,13),(25,1),(27,109),(142,1)]),[],[],[]⟩) (o:=[.c (.fn 176 [] [(.ptr 13 0),(.ptr 14 0)]) [(5,(.box 158 [(pI kd),(.own 12),(pI 0),(pI 0),(pI 0)])),(12,(.row 78 R.length ((R.map rwE).flatten))),(13,(.box 156 [(.ptr 5 0)])),(14,(.box 3 [(pI (((nr+1):Nat):Int))]))],.c (.p (.sl ((aW xl ([32]:List UInt8)).length) (((aW xl ([32]:List UInt8)).map stE).flatten))) [],bF,bF,bF,bF,bF,bT,.c (.tup [(.p bM),(pB false)]) [(5,(.box 158 [(pI kd),(.own 12),(pI (((nr+1):Nat):Int)),(pI B8),(pI B3)])),(12,(.row 78 R.length ((R.map rwE).flatten))),(13,(.box 156 [(.ptr 5 0)])),(14,(.box 3 [(pI (((nr+1):Nat):Int))]))],bF,bT,.c (.tup [(.p (.agg [(aB 0),bM])),(pI (((nr+1):Nat):Int)),(pI B8),(pI B3)]) [(5,(.box 158 [(pI kd),(.own 12),(pI (((nr+1):Nat):Int)),(pI B8),(pI B3)])),(12,(.row 78 R.length ((R.map rwE).flatten)))]]) (l:=[FC Tp 94 [(.ptr 5 0)] [(5,(.box 158 [(pI kd),(.own 12),(pI (((nr+1):Nat):Int)),(pI B8),(pI B3)])),(12,(.row 78 R.length ((R.map rwE).flatten)))] 15 (.tup [(.p (.agg [(aB 0),bM])),(pI (((nr+1):Nat):Int)),(pI B8),(pI B3)]) [(5,(.box 158 [(pI kd),(.own 12),(pI (((nr+1):Nat):Int)),(pI B8),(pI B3)])),(12,(.row 78 R.length ((R.map rwE).flatten)))],_,false=false,FC Tp 91 [(.ptr 5 0),(.p (.sl ((aW xl ([32]:List UInt8)).length) (((aW xl ([32]:List UInt8)).map stE).flatten))),(.fn 176 [] [(.ptr 13 0),(.ptr 14 0)])] [(5,(.box 158 [(pI kd),(.own 12),(pI 0),(pI 0),(pI 0)])),(13,(.box 156 [(.ptr 5 0)])),(14,(.box 3 [(pI (((nr+1):Nat):Int))])),(12,(.row 78 R.length ((R.map rwE).flatten)))] 15 (.tup [(.p bM),(pB false)]) [(5,(.box 158 [(pI kd),(.own 12),(pI (((nr+1):Nat):Int)),(pI B8),(pI B3)])),(12,(.row 78 R.length ((R.map rwE).flatten))),(13,(.box 156 [(.ptr 5 0)])),(14,(.box 3 [(pI (((nr+1):Nat):Int))]))],_,_,_,_,_,_,_,_,FC Tp 89 [(.ptr 5 0),(pI (((nr+1):Nat):Int))] [(5,(.box 158 [(pI kd),(.own 12),(pI 0),(pI 0),(pI 0)])),(12,(.row 78 R.length ((R.map rwE).flatten)))] 13 (.fn 176 [] [(.ptr 13 0),(.ptr 14 0)]) [(5,(.box 158 [(pI kd),(.own 12),(pI 0),(pI 0),(pI 0)])),(12,(.row 78 R.length ((R.map rwE).flatten))),(13,(.box 156 [(.ptr 5 0)])),(14,(.box 3 [(pI (((nr+1):Nat):Int))]))],_]) (by kernel_rfl) (gc (FMM.fc (ids:=[5,12]) (kT (k:=kd) (l:=(((nr+1):Nat):Int)) (f:=B8) (e:=B3) (n:=R.length) (cs:=((R.map rwE).flatten)) Ba) (by kernel_rfl)) (gc (cL Ba) (gc rfl (gc (FMM.fcN (k:=0) rfl (ids:=[5,12,13,14]) (aSq (((nr+1):Nat):Int) R 0 0 He Hf).2 (by kernel_rfl)) (gc (gO h7) (gc h6 (gc (bA h5) (gc (aO h4) (Ap h3 (gc (fk 15 (fB xl ([32]:List UInt8) h1 h2) rfl) (gc (FMM.fcN (k:=2) rfl (ids:=[5,12]) (fI (ln:=(((nr+1):Nat):Int)) (k:=kd) (l:=(0:Int)) (f:=(0:Int)) (e:=(0:Int)) (R:=R)) (by kernel_rfl)) (gc h0 gn)))))))))))),by kernel_rfl,(⟨fr 149 [(1,(.ptr 0 0)),(2,(.ptr 1 0)),(3,(.ptr 2 0)),(4,(.ptr 3 0)),(5,(.ptr 4 0)),(6,(.ptr 6 0)),(7,(.ptr 7 0)),(8,(.ptr 8 0)),(9,(.ptr 9 0)),(10,(.ptr 10 0)),(24,(.ptr 5 0)),(26,(.fn 175 [] [(.ptr 11 0)]))],[some (.box 9 [(.p (aC s))]),some (.box 26 [(pI 0),(.p bM)]),some (.box 3 [(pI (((nr+1):Nat):Int))]),some (.box 3 [(pI B8)]),some (.box 27 [(pI B3)]),some (.box 158 [(pI kd),(.own 12),(pI (((nr+1):Nat):Int)),(pI B8),(pI B3)]),some (.box 156 [(.ptr 5 0)]),some (.box 3 [(pI (((nr+1):Nat):Int))]),some (.box 3 [(pI my)]),some (.box 3 [(pI (bf:Int))]),some (.box 4 [(pB dn)]),some .dead,some (.row 78 R.length ((R.map rwE).flatten))]⟩:St).t,by kernel_rfl⟩
 exact raw
theorem aQa{s:List UInt8}{R:List (List Cel)}{xl:List UInt8}(h0:inR (((nr+1):Nat):Int))(h1:xl.length<4294967281)(h2:1≤([32]:List UInt8).length)(h3:dn=false)(h4:xb=true)(h5:(((nr+1):Nat):Int)≠1)(h6:inR (my+1))(h7:(my+1)<(((nr+1):Nat):Int))(h8:0≤(0:Int)∧(0:Int)≤(bf:Int)∧(bf:Int)≤(s.length:Int))(h9:(s.take bf).length≤65536)(Jb:0<(aW xl ([32]:List UInt8)).length)(Jc:(lsM (aW xl ([32]:List UInt8)) (bN (s.take bf))).2≠0)(Be:((lsM (aW xl ([32]:List UInt8)) (bN (s.take bf))).2)≠0)(Cf:D7=(nr+1)):cC Tp 13 12 fM (kH (bU s nr my bf dn kd R.length ((R.map rwE).flatten)) 27 28 11 12 xl xb) .ret (bX (bX (bX (bX (bU s D7 my bf true kd R.length ((R.map rwE).flatten)) 5 (some (.box 158 [(pI kd),(.own 12),(pI (((nr+1):Nat):Int)),(pI ((lsM (aW xl ([32]:List UInt8)) (bN (s.take bf))).1)),(pI ((lsM (aW xl ([32]:List UInt8)) (bN (s.take bf))).2))]))) 2 (some (.box 3 [(pI (((nr+1):Nat):Int))]))) 3 (some (.box 3 [(pI ((lsM (aW xl ([32]:List UInt8)) (bN (s.take bf))).1))]))) 4 (some (.box 27 [(pI ((lsM (aW xl ([32]:List UInt8)) (bN (s.take bf))).2))]))).m:=by
 subst Cf
 have raw:cC Tp 13 12 fM (kH (bU s nr my bf dn kd R.length ((R.map rwE).flatten)) 27 28 11 12 xl xb) .ret (bX (bX (bX (bX (bU s (nr+1) my bf true kd R.length ((R.map rwE).flatten)) 5 (some (.box 158 [(pI kd),(.own 12),(pI (((nr+1):Nat):Int)),(pI ((lsM (aW xl ([32]:List UInt8)) (bN (s.take bf))).1)),(pI ((lsM (aW xl ([32]:List UInt8)) (bN (s.take bf))).2))]))) 2 (some (.box 3 [(pI (((nr+1):Nat):Int))]))) 3 (some (.box 3 [(pI ((lsM (aW xl ([32]:List UInt8)) (bN (s.take bf))).1))]))) 4 (some (.box 27 [(pI ((lsM (aW xl ([32]:List UInt8)) (bN (s.take bf))).2))]))).m:=⟨⟨fr 149 [(1,(.ptr 0 0)),(2,(.ptr 1 0)),(3,(.ptr 2 0)),(4,(.ptr 3 0)),(5,(.ptr 4 0)),(6,(.ptr 6 0)),(7,(.ptr 7 0)),(8,(.ptr 8 0)),(9,(.ptr 9 0)),(10,(.ptr 10 0)),(24,(.ptr 5 0)),(26,(.fn 175 [] [(.ptr 11 0)]))],[some (.box 9 [(.p (aC s))]),some (.box 26 [(pI 0),(.p bM)]),some (.box 3 [(pI (((nr+1):Nat):Int))]),some (.box 3 [(pI ((lsM (aW xl ([32]:List UInt8)) (bN (s.take bf))).1))]),some (.box 27 [(pI ((lsM (aW xl ([32]:List UInt8)) (bN (s.take bf))).2))]),some (.box 158 [(pI kd),(.own 12),(pI (((nr+1):Nat):Int)),(pI ((lsM (aW xl ([32]:List UInt8)) (bN (s.take bf))).1)),(pI ((lsM (aW xl ([32]:List UInt8)) (bN (s.take bf))).2))]),some (.box 156 [(.ptr 5 0)]),some (.box 3 [(pI (((nr+1):Nat):Int))]),some (.box 3 [(pI my)]),some (.box 3 [(pI (bf:Int))]),some (.box 4 [(pB true)]),some .dead,some (.row 78 R.length ((R.map rwE).flatten))]⟩,⟨[],[12],[],[]⟩,aA.fin (g:=⟨(rng [(0,1),(11,13),(25,1),(27,109),(142,1)]),[],[],[(110000,0)]⟩) (o:=[.c (.fn 176 [] [(.ptr 13 0),(.ptr 14 0)]) [(5,(.box 158 [(pI kd),(.own 12),(pI 0),(pI 0),(pI 0)])),(12,(.row 78 R.length ((R.map rwE).flatten))),(13,(.box 156 [(.ptr 5 0)])),(14,(.box 3 [(pI (((nr+1):Nat):Int))]))],.c (.p (.sl ((aW xl ([32]:List UInt8)).length) (((aW xl ([32]:List UInt8)).map stE).flatten))) [],bF,bF,bF,bF,bF,bF,.c (.tup [(pI (bN (s.take bf))),(pI 0)]) [],.c (.tup []) [(13,(.box 156 [(.ptr 5 0)])),(14,(.box 3 [(pI (((nr+1):Nat):Int))])),(5,(.box 158 [(pI kd),(.own 12),(pI (((nr+1):Nat):Int)),(pI ((lsM (aW xl ([32]:List UInt8)) (bN (s.take bf))).1)),(pI ((lsM (aW xl ([32]:List UInt8)) (bN (s.take bf))).2))])),(12,(.row 78 R.length ((R.map rwE).flatten)))],bT,.c (.tup [(.p (.agg [(aB 0),bM])),(pI (((nr+1):Nat):Int)),(pI ((lsM (aW xl ([32]:List UInt8)) (bN (s.take bf))).1)),(pI ((lsM (aW xl ([32]:List UInt8)) (bN (s.take bf))).2))]) [(5,(.box 158 [(pI kd),(.own 12),(pI (((nr+1):Nat):Int)),(pI ((lsM (aW xl ([32]:List UInt8)) (bN (s.take bf))).1)),(pI ((lsM (aW xl ([32]:List UInt8)) (bN (s.take bf))).2))])),(12,(.row 78 R.length ((R.map rwE).flatten)))]]) (l:=[FC Tp 94 [(.ptr 5 0)] [(5,(.box 158 [(pI kd),(.own 12),(pI (((nr+1):Nat):Int)),(pI ((lsM (aW xl ([32]:List UInt8)) (bN (s.take bf))).1)),(pI ((lsM (aW xl ([32]:List UInt8)) (bN (s.take bf))).2))])),(12,(.row 78 R.length ((R.map rwE).flatten)))] 15 (.tup [(.p (.agg [(aB 0),bM])),(pI (((nr+1):Nat):Int)),(pI ((lsM (aW xl ([32]:List UInt8)) (bN (s.take bf))).1)),(pI ((lsM (aW xl ([32]:List UInt8)) (bN (s.take bf))).2))]) [(5,(.box 158 [(pI kd),(.own 12),(pI (((nr+1):Nat):Int)),(pI ((lsM (aW xl ([32]:List UInt8)) (bN (s.take bf))).1)),(pI ((lsM (aW xl ([32]:List UInt8)) (bN (s.take bf))).2))])),(12,(.row 78 R.length ((R.map rwE).flatten)))],_,FC Tp 93 [(.p (.sl ((aW xl ([32]:List UInt8)).length) (((aW xl ([32]:List UInt8)).map stE).flatten))),(pI (bN (s.take bf))),(.fn 176 [] [(.ptr 13 0),(.ptr 14 0)])] [(13,(.box 156 [(.ptr 5 0)])),(14,(.box 3 [(pI (((nr+1):Nat):Int))])),(5,(.box 158 [(pI kd),(.own 12),(pI 0),(pI 0),(pI 0)])),(12,(.row 78 R.length ((R.map rwE).flatten)))] 15 (.tup []) [(13,(.box 156 [(.ptr 5 0)])),(14,(.box 3 [(pI (((nr+1):Nat):Int))])),(5,(.box 158 [(pI kd),(.own 12),(pI (((nr+1):Nat):Int)),(pI ((lsM (aW xl ([32]:List UInt8)) (bN (s.take bf))).1)),(pI ((lsM (aW xl ([32]:List UInt8)) (bN (s.take bf))).2))])),(12,(.row 78 R.length ((R.map rwE).flatten)))],_,_,_,_,_,_,_,_,_,_,FC Tp 89 [(.ptr 5 0),(pI (((nr+1):Nat):Int))] [(5,(.box 158 [(pI kd),(.own 12),(pI 0),(pI 0),(pI 0)])),(12,(.row 78 R.length ((R.map rwE).flatten)))] 13 (.fn 176 [] [(.ptr 13 0),(.ptr 14 0)]) [(5,(.box 158 [(pI kd),(.own 12),(pI 0),(pI 0),(pI 0)])),(12,(.row 78 R.length ((R.map rwE).flatten))),(13,(.box 156 [(.ptr 5 0)])),(14,(.box 3 [(pI (((nr+1):Nat):Int))]))],_]) (by kernel_rfl) (gc (FMM.fc (ids:=[5,12]) (kT (k:=kd) (l:=(((nr+1):Nat):Int)) (f:=((lsM (aW xl ([32]:List UInt8)) (bN (s.take bf))).1)) (e:=((lsM (aW xl ([32]:List UInt8)) (bN (s.take bf))).2)) (n:=R.length) (cs:=((R.map rwE).flatten)) Be) (by kernel_rfl)) (gc (cL Be) (gc (FMM.fc (ids:=[13,14,5,12]) (cAz (aW xl ([32]:List UInt8)) (bN (s.take bf)) (((nr+1):Nat):Int) kd R Jb Jc) (by kernel_rfl)) (gc (fk 15 (mI (s.take bf) h9) rfl) (gc h8 (gc (eQ h7) (gc h6 (gc (bA h5) (gc (aO h4) (Ap h3 (gc (fk 15 (fB xl ([32]:List UInt8) h1 h2) rfl) (gc (FMM.fcN (k:=2) rfl (ids:=[5,12]) (fI (ln:=(((nr+1):Nat):Int)) (k:=kd) (l:=(0:Int)) (f:=(0:Int)) (e:=(0:Int)) (R:=R)) (by kernel_rfl)) (gc h0 gn))))))))))))),by kernel_rfl,(⟨fr 149 [(1,(.ptr 0 0)),(2,(.ptr 1 0)),(3,(.ptr 2 0)),(4,(.ptr 3 0)),(5,(.ptr 4 0)),(6,(.ptr 6 0)),(7,(.ptr 7 0)),(8,(.ptr 8 0)),(9,(.ptr 9 0)),(10,(.ptr 10 0)),(24,(.ptr 5 0)),(26,(.fn 175 [] [(.ptr 11 0)]))],[some (.box 9 [(.p (aC s))]),some (.box 26 [(pI 0),(.p bM)]),some (.box 3 [(pI (((nr+1):Nat):Int))]),some (.box 3 [(pI ((lsM (aW xl ([32]:List UInt8)) (bN (s.take bf))).1))]),some (.box 27 [(pI ((lsM (aW xl ([32]:List UInt8)) (bN (s.take bf))).2))]),some (.box 158 [(pI kd),(.own 12),(pI (((nr+1):Nat):Int)),(pI ((lsM (aW xl ([32]:List UInt8)) (bN (s.take bf))).1)),(pI ((lsM (aW xl ([32]:List UInt8)) (bN (s.take bf))).2))]),some (.box 156 [(.ptr 5 0)]),some (.box 3 [(pI (((nr+1):Nat):Int))]),some (.box 3 [(pI my)]),some (.box 3 [(pI (bf:Int))]),some (.box 4 [(pB true)]),some .dead,some (.row 78 R.length ((R.map rwE).flatten))]⟩:St).t,by kernel_rfl⟩
 exact raw
theorem aQb{s:List UInt8}{R:List (List Cel)}{xl:List UInt8}(h0:inR (((nr+1):Nat):Int))(h1:xl.length<4294967281)(h2:1≤([32]:List UInt8).length)(h3:dn=false)(h4:xb=true)(h5:(((nr+1):Nat):Int)≠1)(h6:inR (my+1))(h7:(my+1)<(((nr+1):Nat):Int))(h8:0≤(0:Int)∧(0:Int)≤(bf:Int)∧(bf:Int)≤(s.length:Int))(h9:(s.take bf).length≤65536)(Jb:0<(aW xl ([32]:List UInt8)).length)(Jc:(lsM (aW xl ([32]:List UInt8)) (bN (s.take bf))).2=0)(Be:inR (((xl.length+1):Nat):Int))(B1:inR (((bf+(xl.length+1)):Nat):Int))(Cf:D7=(nr+1))(F6:Ir=(bf+(xl.length+1))):cC Tp 13 12 fM (kH (bU s nr my bf dn kd R.length ((R.map rwE).flatten)) 27 28 11 12 xl xb) .normal (bU s D7 my Ir true kd R.length ((R.map rwE).flatten)).m:=by
 subst Cf F6
 have raw:cC Tp 13 12 fM (kH (bU s nr my bf dn kd R.length ((R.map rwE).flatten)) 27 28 11 12 xl xb) .normal (bU s (nr+1) my (bf+(xl.length+1)) true kd R.length ((R.map rwE).flatten)).m:=⟨⟨fr 149 [(1,(.ptr 0 0)),(2,(.ptr 1 0)),(3,(.ptr 2 0)),(4,(.ptr 3 0)),(5,(.ptr 4 0)),(6,(.ptr 6 0)),(7,(.ptr 7 0)),(8,(.ptr 8 0)),(9,(.ptr 9 0)),(10,(.ptr 10 0)),(24,(.ptr 5 0)),(26,(.fn 175 [] [(.ptr 11 0)]))],[some (.box 9 [(.p (aC s))]),some (.box 26 [(pI 0),(.p bM)]),some (.box 3 [(pI 0)]),some (.box 3 [(pI 0)]),some (.box 27 [(pI 0)]),some (.box 158 [(pI kd),(.own 12),(pI 0),(pI 0),(pI 0)]),some (.box 156 [(.ptr 5 0)]),some (.box 3 [(pI (((nr+1):Nat):Int))]),some (.box 3 [(pI my)]),some (.box 3 [(pI (((bf+(xl.length+1)):Nat):Int))]),some (.box 4 [(pB true)]),some .dead,some (.row 78 R.length ((R.map rwE).flatten))]⟩,⟨[],[12],[],[]⟩,aA.fin (g:=⟨(rng [(0,1),(11,13),(25,1),(27,109),(142,1)]),[],[],[(110000,0)]⟩) (o:=[.c (.fn 176 [] [(.ptr 13 0),(.ptr 14 0)]) [(5,(.box 158 [(pI kd),(.own 12),(pI 0),(pI 0),(pI 0)])),(12,(.row 78 R.length ((R.map rwE).flatten))),(13,(.box 156 [(.ptr 5 0)])),(14,(.box 3 [(pI (((nr+1):Nat):Int))]))],.c (.p (.sl ((aW xl ([32]:List UInt8)).length) (((aW xl ([32]:List UInt8)).map stE).flatten))) [],bF,bF,bF,bF,bF,bF,.c (.tup [(pI (bN (s.take bf))),(pI 0)]) [],.c (.tup []) [(13,(.box 156 [(.ptr 5 0)])),(14,(.box 3 [(pI (((nr+1):Nat):Int))])),(5,(.box 158 [(pI kd),(.own 12),(pI 0),(pI 0),(pI 0)])),(12,(.row 78 R.length ((R.map rwE).flatten)))],bF]) (l:=[_,_,_,FC Tp 93 [(.p (.sl ((aW xl ([32]:List UInt8)).length) (((aW xl ([32]:List UInt8)).map stE).flatten))),(pI (bN (s.take bf))),(.fn 176 [] [(.ptr 13 0),(.ptr 14 0)])] [(13,(.box 156 [(.ptr 5 0)])),(14,(.box 3 [(pI (((nr+1):Nat):Int))])),(5,(.box 158 [(pI kd),(.own 12),(pI 0),(pI 0),(pI 0)])),(12,(.row 78 R.length ((R.map rwE).flatten)))] 15 (.tup []) [(13,(.box 156 [(.ptr 5 0)])),(14,(.box 3 [(pI (((nr+1):Nat):Int))])),(5,(.box 158 [(pI kd),(.own 12),(pI 0),(pI 0),(pI 0)])),(12,(.row 78 R.length ((R.map rwE).flatten)))],_,_,_,_,_,_,_,_,_,_,FC Tp 89 [(.ptr 5 0),(pI (((nr+1):Nat):Int))] [(5,(.box 158 [(pI kd),(.own 12),(pI 0),(pI 0),(pI 0)])),(12,(.row 78 R.length ((R.map rwE).flatten)))] 13 (.fn 176 [] [(.ptr 13 0),(.ptr 14 0)]) [(5,(.box 158 [(pI kd),(.own 12),(pI 0),(pI 0),(pI 0)])),(12,(.row 78 R.length ((R.map rwE).flatten))),(13,(.box 156 [(.ptr 5 0)])),(14,(.box 3 [(pI (((nr+1):Nat):Int))]))],_]) (by kernel_rfl) (gc B1 (gc Be (gc aSw (gc (FMM.fc (ids:=[13,14,5,12]) (cBa (aW xl ([32]:List UInt8)) (bN (s.take bf)) (((nr+1):Nat):Int) kd R Jb Jc) (by kernel_rfl)) (gc (fk 15 (mI (s.take bf) h9) rfl) (gc h8 (gc (eQ h7) (gc h6 (gc (bA h5) (gc (aO h4) (Ap h3 (gc (fk 15 (fB xl ([32]:List UInt8) h1 h2) rfl) (gc (FMM.fcN (k:=2) rfl (ids:=[5,12]) (fI (ln:=(((nr+1):Nat):Int)) (k:=kd) (l:=(0:Int)) (f:=(0:Int)) (e:=(0:Int)) (R:=R)) (by kernel_rfl)) (gc h0 gn)))))))))))))),by kernel_rfl,(⟨fr 149 [(1,(.ptr 0 0)),(2,(.ptr 1 0)),(3,(.ptr 2 0)),(4,(.ptr 3 0)),(5,(.ptr 4 0)),(6,(.ptr 6 0)),(7,(.ptr 7 0)),(8,(.ptr 8 0)),(9,(.ptr 9 0)),(10,(.ptr 10 0)),(24,(.ptr 5 0)),(26,(.fn 175 [] [(.ptr 11 0)]))],[some (.box 9 [(.p (aC s))]),some (.box 26 [(pI 0),(.p bM)]),some (.box 3 [(pI 0)]),some (.box 3 [(pI 0)]),some (.box 27 [(pI 0)]),some (.box 158 [(pI kd),(.own 12),(pI 0),(pI 0),(pI 0)]),some (.box 156 [(.ptr 5 0)]),some (.box 3 [(pI (((nr+1):Nat):Int))]),some (.box 3 [(pI my)]),some (.box 3 [(pI (((bf+(xl.length+1)):Nat):Int))]),some (.box 4 [(pB true)]),some .dead,some (.row 78 R.length ((R.map rwE).flatten))]⟩:St).t,by kernel_rfl⟩
 exact raw
end
end KV
end Go.Proofs
section
namespace Go.Proofs
open Go.RowKit
namespace KV
open Tryz
theorem aEi(sep:List UInt8):∀ (k:Nat) (s u:List UInt8),u∈Lib.splitK sep 0 k s→u.length≤s.length
 | 0,s,u,h=>by
  rw [Lib.splitK,List.mem_singleton] at h
  subst h;exact Bo _
 | k+1,s,u,h=>by
  rw [Lib.splitK] at h
  split at h
  ·rw [List.mem_singleton] at h
   subst h;exact Bo _
  ·rcases nK.1 h with rfl | h
   ·rw [uM];omega
   ·have:=aEi sep k _ u h
    rw [pD] at this
    omega
theorem aSu{s sep u:List UInt8}(h:u∈aW s sep):u.length≤s.length:=aEi _ _ _ _ h
theorem aPw(sep:List UInt8):∀ (k:Nat) (s:List UInt8),0<(Lib.splitK sep 0 k s).length
 | 0,s=>by simp [Lib.splitK]
 | k+1,s=>by rw [Lib.splitK];split <;> simp
theorem aAw(s sep:List UInt8):0<(aW s sep).length:=aPw _ _ _
theorem rO:∀ (ts:List Int) (us:List (List UInt8)) (i:Nat) (cs:List Cel),rdL ts us i = .inl cs→cs.length=ts.length
 | [],us,i,cs,h=>by cases h;rfl
 | t::ts,[],i,cs,h=>by cases h
 | t::ts,u::us,i,cs,h=>by
  unfold rdL at h
  split at h
  ·cases h
  ·split at h
   ·rename_i Bs h2
    cases h;rw [fQ,fQ,rO ts us (i+1) Bs h2]
   ·cases h
theorem aGu:∀ (ts:List Int) (us:List (List UInt8)) (i:Nat) (p:Int × Int),rdL ts us i = .inr p→p.2≠0
 | [],us,i,p,h=>by cases h
 | t::ts,[],i,p,h=>by cases h;exact (by decide:(11:Int)≠0)
 | t::ts,u::us,i,p,h=>by
  unfold rdL at h
  split at h
  ·cases h;assumption
  ·split at h
   ·cases h
   ·rename_i p' h2
    cases h;exact aGu ts us (i+1) p h2
theorem bIy(fs:List (List UInt8)):0≤(hdM fs).2.1∧(hdM fs).2.1≤200:=by
 have h:=rJ (fld fs 2) 200 (by decide)
 unfold hdM
 repeat' split
 all_goals dsimp only
 all_goals first | omega | exact ⟨h.1,h.2.1⟩
theorem aAx(a b c d e f:Int):E3 a b c d e f = -1∨E3 a b c d e f=0∨E3 a b c d e f=1:=by
 have h:∀ a b:Int,kE a b = -1∨kE a b=0∨kE a b=1:=fun a b=>by
  unfold kE
  repeat' split
  all_goals simp
 unfold E3
 repeat' split
 all_goals exact h _ _
structure PS where
 nr:Nat
 my:Int
 bf:Nat
 dn:Bool
 kd:Int
 R:List (List Cel)
def prF(s:List UInt8)(a:PS)(x:List UInt8 × Bool):Except (PS × Int × Int × Int) PS :=
 if a.dn=true∨x.2=false then .error ({ a with nr:=a.nr+1 },((a.nr+1:Nat):Int),1,11)
 else if a.nr=0 then
  (if (hdM (aW x.1 [32])).2.2.2≠0 then .error ({ a with nr:=a.nr+1,my:=(hdM (aW x.1 [32])).2.1,kd:=Di (hdM (aW x.1 [32])).1 },((a.nr+1:Nat):Int),(hdM (aW x.1 [32])).2.2.1,(hdM (aW x.1 [32])).2.2.2)
  else .ok { a with nr:=a.nr+1,my:=(hdM (aW x.1 [32])).2.1,kd:=Di (hdM (aW x.1 [32])).1,bf:=a.bf+(x.1.length+1) })
 else if ((a.nr+1:Nat):Int)≤a.my+1 then
  match rdL (aK a.kd) (aW x.1 [32]) 0 with
  | .inr p => .error ({ a with nr:=a.nr+1 },((a.nr+1:Nat):Int),p.1,p.2)
  | .inl cs =>
   if (aW x.1 [32]).length≠(aK a.kd).length then .error ({ a with nr:=a.nr+1 },((a.nr+1:Nat):Int),(((aK a.kd).length+1:Nat):Int),11)
   else match a.R.getLast? with
    | none => .ok { a with nr:=a.nr+1,R:=a.R++[cs],bf:=a.bf+(x.1.length+1) }
    | some c =>
     if bV a.kd c cs = -1 then .ok { a with nr:=a.nr+1,R:=a.R++[cs],bf:=a.bf+(x.1.length+1) }
     else .error ({ a with nr:=a.nr+1,R:=a.R++[cs] },((a.nr+1:Nat):Int),1,if bV a.kd c cs=0 then 5 else 4)
 else if (lsM (aW x.1 [32]) (bN (s.take a.bf))).2≠0 then .error ({ a with nr:=a.nr+1,dn:=true },((a.nr+1:Nat):Int),(lsM (aW x.1 [32]) (bN (s.take a.bf))).1,(lsM (aW x.1 [32]) (bN (s.take a.bf))).2)
 else .ok { a with nr:=a.nr+1,dn:=true,bf:=a.bf+(x.1.length+1) }
def prA:PS:=⟨0,0,0,false,0,[]⟩
def prM(s:List UInt8):Int × List (List Cel) × Int × Int × Int :=
 if 65536<s.length then (0,[],0,0,10) else match itB (prF s) prA (cG s) with
  | .error e=>(0,[],e.2.1,e.2.2.1,e.2.2.2)
  | .ok a=>if a.dn=true then (a.kd,a.R,0,0,0) else (0,[],((a.nr+1:Nat):Int),1,11)
structure aKo (pre:List (List UInt8 × Bool)) (a:PS):Prop where
 nr:a.nr=pre.length
 bf:a.bf=qL pre
 ended:∀ y∈pre,y.2=true
 my:0≤a.my∧a.my≤200
 R:∀ r∈a.R,r.length=(aK a.kd).length
 Rn:a.R.length≤a.nr
theorem aEj{s:List UInt8}{pre:List (List UInt8 × Bool)}{a a2:PS}{x:List UInt8 × Bool}(h:aKo pre a)(hf:prF s a x = .ok a2):aKo (pre++[x]) a2:=by
 obtain ⟨h1,h2,h3,h4,h5,h6⟩:=h;unfold prF at hf
 split at hf
 ·cases hf
 ·rename_i hc
  have hx:x.2=true:=by
   cases hx:x.2 with
   | true=>rfl
   | false=>exact absurd (.inr hx) hc
  have he:∀ y∈pre++[x],y.2=true:=fun y hy=>by
   rcases aAg.1 hy with hy | hy
   ·exact h3 y hy
   ·rw [List.mem_singleton] at hy;subst hy;exact hx
  have hb:a.bf+(x.1.length+1)=qL (pre++[x]):=by rw [aEl,h2]
  have hn:a.nr+1=(pre++[x]).length:=by rw [gR,h1];rfl
  split at hf
  ·rename_i h0
   split at hf
   ·cases hf
   ·cases hf
    have hR:a.R=[]:=tB (by omega)
    refine ⟨hn,hb,he,bIy _,?_,?_⟩
    ·intro r hr
     have D5:r∈a.R:=hr;rw [hR] at D5
     cases D5
    ·show a.R.length≤a.nr+1
     omega
  ·split at hf
   ·split at hf
    ·cases hf
    ·rename_i cs hcs
     have hl:=rO _ _ _ _ hcs;have hR:∀ r∈a.R++[cs],r.length=(aK a.kd).length:=fun r hr=>by
      rcases aAg.1 hr with hr | hr
      ·exact h5 r hr
      ·rw [List.mem_singleton] at hr;subst hr;exact hl
     split at hf
     ·cases hf
     ·split at hf
      ·cases hf
       exact ⟨hn,hb,he,h4,hR,by show (a.R++[cs]).length≤a.nr+1;rw [gR,List.length_singleton];omega⟩
      ·split at hf
       ·cases hf
        exact ⟨hn,hb,he,h4,hR,by show (a.R++[cs]).length≤a.nr+1;rw [gR,List.length_singleton];omega⟩
       ·cases hf
   ·split at hf
    ·cases hf
    ·cases hf
     exact ⟨hn,hb,he,h4,h5,by show a.R.length≤a.nr+1;omega⟩
theorem uX{s:List UInt8}:∀ (l pre:List (List UInt8 × Bool)) (a a2:PS),aKo pre a→itB (prF s) a l = .ok a2→aKo (pre++l) a2
 | [],pre,a,a2,h,hi=>by cases hi;rw [List.append_nil];exact h
 | x::l,pre,a,a2,h,hi=>by
  cases hf:prF s a x with
  | error e=>simp only [itB,hf] at hi;cases hi
  | ok a' =>
   simp only [itB,hf] at hi
   have:=uX l (pre++[x]) a' a2 (aEj h hf) hi;rw [List.append_assoc] at this
   exact this
theorem aGv:aKo [] prA:=⟨rfl,rfl,fun y h=>(by simp at h),(by decide),fun r h=>(by cases h),Bo _⟩
abbrev prS(s:List UInt8)(a:PS):St:=bU s a.nr a.my a.bf a.dn a.kd a.R.length ((a.R.map rwE).flatten)
abbrev prR(s:List UInt8)(e:PS × Int × Int × Int):St:=bX (bX (bX (bX (prS s e.1) 5 (some (.box 158 [.p (aB e.1.kd),.own 12,.p (aB e.2.1),.p (aB e.2.2.1),.p (aB e.2.2.2)]))) 2 (some (.box 3 [.p (aB e.2.1)]))) 3 (some (.box 3 [.p (aB e.2.2.1)]))) 4 (some (.box 27 [.p (aB e.2.2.2)]))
theorem aSv(r:List Cel):iY (rwE r)=true:=by
 show (iY (r.map cE).flatten && true)=true;have:∀ l:List Cel,iY (l.map cE).flatten=true:=fun l=>by
  induction l with
  | nil=>rfl
  | cons c l ih=>exact ih
 rw [this];rfl
theorem aKp:∀ {l m:List PV},iY l=true→iY m=true→iY (l++m)=true
 | [],_,_,h=>h
 | x::l,m,h,h2=>by
  rw [iY,Cj] at h
  rw [List.cons_append,iY,h.1,aKp h.2 h2];rfl
theorem qJ:∀ R:List (List Cel),iY (R.map rwE).flatten=true
 | []=>rfl
 | r::R=>by rw [kN,vS];exact aKp (aSv r) (qJ R)
theorem nQ(R:List (List Cel))(c:List Cel):((R++[c]).map rwE).flatten=(R.map rwE).flatten++[PV.sl c.length ((c.map cE).flatten)]:=by simp [rwE,aP]
theorem bAw{s:List UInt8}(hs:s.length≤65536){pre:List (List UInt8 × Bool)}{x:List UInt8 × Bool}{a:PS}(hp:pre++[x] <+: cG s)(h:aKo pre a) :
  (∀ a',prF s a x = .ok a'→cC Tp 13 12 (sub (cd Tryz.f15) [1,1,1,1,0,1,0,1]) (kH (prS s a) 27 28 11 12 x.1 x.2) .normal (prS s a').m) ∧
  (∀ e,prF s a x = .error e→cC Tp 13 12 (sub (cd Tryz.f15) [1,1,1,1,0,1,0,1]) (kH (prS s a) 27 28 11 12 x.1 x.2) .ret (prR s e).m):=by
 obtain ⟨xl,xb⟩:=x;obtain ⟨nr,my,bf,dn,kd,R⟩:=a;obtain ⟨h1,h2,h3,h4,h5,h6⟩:=h;dsimp only at h1 h2 h3 h4 h5 h6
 have hfar:=wG pre (xl,xb) s hp h3;dsimp only at hfar
 have hfg:=aSy pre;have i1:inR (((nr+1:Nat)):Int):=aL (by omega)
 have i2:inR (((xl.length+1:Nat)):Int):=aL (by omega)
 have i3:inR (((bf+(xl.length+1):Nat)):Int):=aL (by omega)
 have i4:inR (my+1):=by unfold inR;omega
 have Gq:xl.length<4294967281:=by omega
 have Ey:1≤([32]:List UInt8).length:=by decide
 have hf:∀ u∈aW xl [32],u.length≤90000:=fun u hu=>by have:=aSu hu;omega
 unfold prF;dsimp only
 by_cases hd:dn=true
 ·rw [if_pos (.inl hd)]
  refine ⟨fun _ h=>(by cases h),fun _ h => ?_⟩
  cases h;exact bAx i1 Gq Ey hd rfl
 ·have Ew:dn=false:=by simpa using hd
  by_cases hb:xb=false
  ·rw [if_pos (.inr hb)]
   refine ⟨fun _ h=>(by cases h),fun _ h => ?_⟩
   cases h;exact bAy i1 Gq Ey Ew hb rfl
  ·have A1:xb=true:=by simpa using hb
   rw [if_neg (by simp [Ew,A1])]
   by_cases h0:nr=0
   ·rw [if_pos h0]
    have z1:(((nr+1:Nat)):Int)=(1:Int):=by omega
    by_cases he:(hdM (aW xl [32])).2.2.2=0
    ·rw [if_neg (by simp [he])]
     refine ⟨fun _ h => ?_,fun _ h=>(by cases h)⟩
     cases h;exact bBa i1 Gq Ey Ew A1 z1 he i2 i3 rfl rfl rfl rfl
    ·rw [if_pos he]
     refine ⟨fun _ h=>(by cases h),fun _ h => ?_⟩
     cases h;exact bAz i1 Gq Ey Ew A1 z1 he he rfl rfl rfl
   ·rw [if_neg h0]
    have z2:(((nr+1:Nat)):Int)≠(1:Int):=by omega
    by_cases hm:(((nr+1:Nat)):Int)≤my+1
    ·rw [if_pos hm]
     cases hr:rdL (aK kd) (aW xl [32]) 0 with
     | inr p =>
      obtain ⟨fd,er⟩:=p;refine ⟨fun _ h=>(by cases h),fun _ h => ?_⟩
      cases h;exact aPz i1 Gq Ey Ew A1 z2 i4 hm hf hr (aGu _ _ _ _ hr) rfl
     | inl cs =>
      have hl:=rO _ _ _ _ hr;dsimp only
      by_cases hfl:(aW xl [32]).length=(aK kd).length
      ·rw [if_neg (by simp [hfl])]
       have hkc:aN kd≤(cs.length:Int):=by rw [hl];exact rK kd
       cases hg:R.getLast? with
       | none =>
        have hR:R=[]:=List.getLast?_eq_none_iff.1 hg;refine ⟨fun _ h => ?_,fun _ h=>(by cases h)⟩
        cases h;subst hR;exact bBe i1 Gq Ey Ew A1 z2 i4 hm hf hr hfl (by simp) (by simp) i2 i3 rfl rfl rfl (by simp [rwE,aP])
       | some c =>
        have hRn:0<R.length:=by
         cases R with
         | nil=>simp at hg
         | cons y l=>simp
        have hc:R[R.length-1]? = some c:=by rw [List.getLast?_eq_getElem?] at hg;exact hg
        have hat:R[((R.length:Int)-(1:Int)).toNat]? = some c:=by
         rw [show ((R.length:Int)-(1:Int)).toNat=R.length-1 by omega];exact hc
        have hkl:aN kd≤(c.length:Int):=by rw [h5 c (Ci hc)];exact rK kd
        have i5:inR ((R.length:Int)-(1:Int)):=by unfold inR;omega
        have z3:(0:Int)<(R.length:Int):=by omega
        have z4:0≤((R.length:Int)-(1:Int))∧((R.length:Int)-(1:Int))<(R.length:Int):=by omega
        have hap:[(PV.sl cs.length ((cs.map cE).flatten))].length=1*1∧R.length+1≤1000000:=⟨rfl,by omega⟩
        dsimp only
        rcases aAx (aM kd c 0) (aM kd c 1) (aM kd c 2) (aM kd cs 0) (aM kd cs 1) (aM kd cs 2) with hk | hk | hk
        ·have Gj:bV kd c cs = -1:=hk
         rw [if_pos Gj];refine ⟨fun _ h => ?_,fun _ h=>(by cases h)⟩
         cases h;exact bBb i1 Gq Ey Ew A1 z2 i4 hm hf hr hfl z3 i5 z4 hat hkl hkc Gj hap i2 i3 rfl rfl (by simp) (nQ R cs)
        ·have Gj:bV kd c cs=0:=hk
         rw [if_neg (by rw [Gj];decide),if_pos Gj]
         refine ⟨fun _ h=>(by cases h),fun _ h => ?_⟩
         cases h;exact bBc i1 Gq Ey Ew A1 z2 i4 hm hf hr hfl z3 i5 z4 hat hkl hkc Gj hap rfl (by simp) (nQ R cs)
        ·have Gj:bV kd c cs=1:=hk
         rw [if_neg (by rw [Gj];decide),if_neg (by rw [Gj];decide)]
         refine ⟨fun _ h=>(by cases h),fun _ h => ?_⟩
         cases h;exact bBd i1 Gq Ey Ew A1 z2 i4 hm hf hr hfl z3 i5 z4 hat hkl hkc Gj hap rfl (by simp) (nQ R cs)
      ·rw [if_pos hfl]
       refine ⟨fun _ h=>(by cases h),fun _ h => ?_⟩
       cases h;exact bBf i1 Gq Ey Ew A1 z2 i4 hm hf hr hfl rfl
    ·rw [if_neg hm]
     have z5:(my+(1:Int))<(((nr+1:Nat)):Int):=by omega
     have z6:0≤(0:Int)∧(0:Int)≤(bf:Int)∧(bf:Int)≤(s.length:Int):=by omega
     have hbf:(bf:Int)≤(s.length:Int):=by omega
     have htk:(s.take bf).length≤65536:=by rw [uM];omega
     by_cases hz:(lsM (aW xl [32]) (bN (s.take bf))).2=0
     ·rw [if_neg (by simp [hz])]
      refine ⟨fun _ h => ?_,fun _ h=>(by cases h)⟩
      cases h;exact aQb i1 Gq Ey Ew A1 z2 i4 z5 z6 htk (aAw _ _) hz i2 i3 rfl rfl
     ·rw [if_pos hz]
      refine ⟨fun _ h=>(by cases h),fun _ h => ?_⟩
      cases h;exact aQa i1 Gq Ey Ew A1 z2 i4 z5 z6 htk (aAw _ _) hz hz rfl
theorem bIz{s:List UInt8}(hs:s.length≤65536) :
  (∀ a,itB (prF s) prA (cG s) = .ok a→aA Tp 0 (sub (cd Tryz.f15) [1,1,1,1,0,1,0]) (qK s) .normal (prS s a))∧(∀ e,itB (prF s) prA (cG s) = .error e→aA Tp 0 (sub (cd Tryz.f15) [1,1,1,1,0,1,0]) (qK s) .ret (prR s e)):=by
 refine aAy (k:=0) (kb:=13) (kk:=12) (gi:=26) (p1:=27) (p2:=28) (bx:=11) (g0:=⟨[],[12],[],[(105001,78),(110000,0)]⟩) s (by omega) (qK s) (prS s) (prR s) (qK s).t (prF s) prA
  (s2T 27 28 11 12) (I9 27 28 11 12) (asg := .seq (aQc 6 27 11 9 "read.go:128") (aQc 7 28 12 4 "read.go:128")) (body := sub (cd Tryz.f15) [1, 1, 1, 1, 0, 1, 0, 1]) (by kernel_rfl) rfl rfl rfl (by show 12 ≤ 12; omega) ⟨(qK s).t, by kernel_rfl⟩ (fun _ => rfl) (fun _ => rfl)
  (fun a => .no (by rfl)) (fun e => .no (by rfl)) (fun a=>(eV (by rfl)).2) (fun e=>(eV (by rfl)).2) (eV (by rfl)).2 (fun a => ?_) (fun e => ?_) (fun a=>by show 13≤13;omega) (by kernel_rfl)
  (fun a x l K W h=>M6 a x l K W h) (fun a x C M W h=>bPf (fun _=>rfl) (fun _=>rfl) a x h) (fun _ _=>rfl) (fun pre x a hp hi=>bAw hs hp (by have:=uX pre [] prA a aGv hi;exact this))
 ·show (iY (a.R.map rwE).flatten && true)=true
  rw [qJ];rfl
 ·show (iY (e.1.R.map rwE).flatten && true)=true
  rw [qJ];rfl
theorem aPx(s:List UInt8){base:Nat}:FV Tp 15 [.p (aC s)] base (.tup [.p (.agg [aB (prM s).1,bW (prM s).2.1]),.p (aB (prM s).2.2.1),.p (aB (prM s).2.2.2.1),.p (aB (prM s).2.2.2.2)]) []:=by
 refine FV.frz ?_ (by rfl)
 unfold prM
 by_cases hs:65536<s.length
 ·rw [if_pos hs]
  exact FMM.wk (cBb (by omega)) rfl
 ·rw [if_neg hs]
  have hL:=bIz (s:=s) (by omega)
  cases hi:itB (prF s) prA (cG s) with
  | error e =>
   exact FMM.wk (cBe (by omega) (hL.2 e hi)) rfl
  | ok a =>
   have hok:=uX (cG s) [] prA a aGv hi;have hnr:a.nr≤65536:=by
    have h1:=hok.nr;rw [List.nil_append] at h1
    have:=jU _ s (Bo _);omega
   dsimp only
   by_cases hd:a.dn=true
   ·rw [if_pos hd]
    have:=cBd (s:=s) (by omega) (hL.1 a hi) hd
    rw [eU] at this
    exact this
   ·rw [if_neg hd]
    exact FMM.wk (cBc (by omega) (hL.1 a hi) (by simpa using hd) (aL (by omega)) rfl) rfl
end KV
end Go.Proofs
end
namespace Go.Proofs
namespace KV
open Tryz
section
def spB:List UInt8→List (List UInt8)
 | []=>[[]]
 | c::r=>if c=32 then []::spB r else match spB r with
  | []=>[[c]]
  | f::fs=>(c::f)::fs
theorem aBa(c:UInt8)(s:List UInt8)(x:UInt8):Lib.index (c::s) [x]=if c=x then 0 else if Lib.index s [x] == -1 then -1 else Lib.index s [x]+1:=by
 rw [Lib.index]
 by_cases h:c=x
 ·subst h
  simp
 ·have:([x].isPrefixOf (c::s))=false:=by
   simp only [List.isPrefixOf];simp [Ne.symm h]
  rw [this,if_neg h];rfl
theorem aEq:∀ (s:List UInt8),Lib.splitK [32] 0 (Lib.count s [32]) s=spB s
 | []=>by
  have:Lib.count [] [32]=0:=by decide
  rw [this,Lib.splitK,spB]
 | c::s=>by
  have ih:=aEq s;have hi:=aBa c s 32
  by_cases h:c=32
  ·rw [if_pos h] at hi
   rw [Lib.count_hit (i:=0) (by simp) hi,Nat.add_comm 1,Lib.splitK,hi,spB,if_pos h]
   simpa using ih
  ·rw [if_neg h] at hi
   rw [spB,if_neg h]
   by_cases hm:Lib.index s [32] = -1
   ·rw [if_pos (by simp [hm])] at hi
    rw [Lib.count_miss hm,Lib.splitK] at ih
    rw [Lib.count_miss hi,Lib.splitK,← ih]
   ·have hge:=Lib.index_ge s [32]
    obtain ⟨i,e⟩:∃ i:Nat,Lib.index s [32]=i:=⟨(Lib.index s [32]).toNat,by omega⟩
    rw [if_neg (by simpa using hm),e] at hi
    rw [Lib.count_hit (i:=i) (by simp) e,Nat.add_comm 1,Lib.splitK,e] at ih
    rw [Lib.count_hit (i:=i+1) (by simp) (hi.trans (by omega)),Nat.add_comm 1 (Lib.count (List.drop (i+1+[32].length) (c::s)) [32]),Lib.splitK,hi,← ih]
    have n1:¬ (((i:Nat):Int) == -1)=true:=by simp
    have n2:¬ (((i:Nat):Int)+1 == -1)=true:=by simp;omega
    rw [if_neg n1,if_neg n2];have e1:(((i:Nat):Int)+1).toNat=i+1:=by omega
    rw [e1];simp only [List.length_singleton,Nat.add_zero,List.take_succ_cons,List.drop_succ_cons,bMl]
theorem aGy(s:List UInt8):aW s [32]=spB s:=aEq s
theorem aTd:∀ (p:List UInt8),(∀ b∈p,b≠32)→spB p=[p]∧∀ t,spB (p++32::t)=p::spB t
 | [],_=>⟨rfl,fun t=>by rw [List.nil_append,spB,if_pos rfl]⟩
 | c::p,h=>by
  obtain ⟨h1,h2⟩:=aTd p fun b hb=>h b (Df _ hb)
  have hc:=h c (lV ..);refine ⟨by rw [spB,if_neg hc,h1],fun t => ?_⟩
  rw [List.cons_append,spB,if_neg hc,h2]
theorem cBi{s:List UInt8}{Bz i:Nat}(h1:Bz≤i)(h2:i≤s.length)(h3:∀ j b,Bz≤j→j<i→s[j]? = some b→b≠32) :
  (i=s.length→spB (s.drop Bz)=[(s.drop Bz).take (i-Bz)])∧(s[i]? = some 32→spB (s.drop Bz)=(s.drop Bz).take (i-Bz)::spB (s.drop (i+1))):=by
 have hp:∀ b∈(s.drop Bz).take (i-Bz),b≠32:=fun b hb=>by
  obtain ⟨j,hj⟩:=List.mem_iff_getElem?.1 hb;rw [List.getElem?_take] at hj
  split at hj
  ·rw [List.getElem?_drop] at hj
   exact h3 (Bz+j) b (by omega) (by omega) hj
  ·cases hj
 obtain ⟨p1,p2⟩:=aTd _ hp;refine ⟨fun e => ?_,fun e => ?_⟩
 ·have:(s.drop Bz).take (i-Bz)=s.drop Bz:=by
   rw [List.take_of_length_le];rw [pD];omega
  rw [this] at p1 ⊢
  exact p1
 ·have hs:s.drop Bz=(s.drop Bz).take (i-Bz)++32::s.drop (i+1):=by
   have e1:s.drop i=32::s.drop (i+1):=by
    have hi:i<s.length:=(Cq.1 e).1;rw [bGb hi]
    congr 1
    exact (Cq.1 e).2
   rw [← e1];have e2:s.drop i=(s.drop Bz).drop (i-Bz):=by rw [List.drop_drop];congr 1;omega
   rw [e2,aNr]
  have:=p2 (s.drop (i+1));rw [← hs] at this
  exact this
def bE(s:List UInt8)(k:Nat):List UInt8 × Bool:=match (spB s)[k]? with
 | some f=>(f,true)
 | none=>([],false)
theorem aBb:∀ (s:List UInt8) (x:UInt8),Lib.index s [x] = -1→∀ b∈s,b≠x
 | [],x,h,b,hb=>by simp at hb
 | c::s,x,h,b,hb=>by
  rw [aBa] at h
  split at h
  ·omega
  ·rename_i hc
   have hge:=Lib.index_ge s [x]
   split at h
   ·rename_i hm
    rcases nK.1 hb with rfl | hb
    ·exact hc
    ·exact aBb s x (by simpa using hm) b hb
   ·omega
theorem aBc:∀ (s:List UInt8) (x:UInt8) (i:Nat),Lib.index s [x]=i→(∀ b∈s.take i,b≠x)∧s[i]? = some x
 | [],x,i,h=>by
  have:Lib.index [] [x] = -1:=rfl;rw [this] at h;omega
 | c::s,x,i,h=>by
  rw [aBa] at h
  split at h
  ·rename_i hc
   have:i=0:=by omega
   subst this;exact ⟨fun b hb=>by simp at hb,by simp [hc]⟩
  ·rename_i hc
   have hge:=Lib.index_ge s [x]
   split at h
   ·omega
   ·rename_i hm
    have C6:Lib.index s [x] ≠ -1:=by simpa using hm
    obtain ⟨j,e⟩:∃ j:Nat,Lib.index s [x]=j:=⟨(Lib.index s [x]).toNat,by omega⟩
    obtain ⟨h1,h2⟩:=aBc s x j e;have:i=j+1:=by omega
    subst this;refine ⟨fun b hb => ?_,by simpa using h2⟩
    rw [List.take_succ_cons] at hb
    rcases nK.1 hb with rfl | hb
    ·exact hc
    ·exact h1 b hb
theorem bJm(s:List UInt8):((Lib.cut s [10]).2.2=true∧s=(Lib.cut s [10]).1++10::(Lib.cut s [10]).2.1∨(Lib.cut s [10]).2.2=false∧(Lib.cut s [10]).1=s∧(Lib.cut s [10]).2.1=[])∧∀ b∈(Lib.cut s [10]).1,b≠10:=by
 have hge:=Lib.index_ge s [10];unfold Lib.cut
 split
 ·rename_i h0
  obtain ⟨i,e⟩:∃ i:Nat,Lib.index s [10]=i:=⟨(Lib.index s [10]).toNat,by omega⟩
  obtain ⟨h1,h2⟩:=aBc s 10 i e;have hi:i<s.length:=(Cq.1 h2).1;have e2:(Lib.index s [10]).toNat=i:=by omega
  dsimp only;rw [e2,List.length_singleton];refine ⟨.inl ⟨rfl,?_⟩,h1⟩;have e1:s.drop i=10::s.drop (i+1):=by
   rw [bGb hi]
   congr 1
   exact (Cq.1 h2).2
  rw [← e1,aNr]
 ·rename_i h0
  exact ⟨.inr ⟨rfl,rfl,rfl⟩,aBb s 10 (by omega)⟩
theorem bBj(u v:List UInt8)(f:Nat):(u++10::v).drop (u.length+1+f)=v.drop f:=by
 rw [show u.length+1+f=(u++[10]).length+f by simp,show u++10::v=(u++[10])++v by simp,← List.drop_drop,List.drop_left]
theorem aKy:∀ (pre:List (List UInt8 × Bool)) (x:List UInt8 × Bool) (s:List UInt8),pre++[x] <+: cG s→(∀ y∈pre,y.2=true) →
  (∃ r,s.drop (qL pre)=x.1++r∧(x.2=true→∃ r',r=10::r')∧(x.2=false→r=[]∧x.1≠[]))∧∀ b∈x.1,b≠10
 | [],x,s,h,_=>by
  by_cases hs:s=[]
  ·subst hs;simp [jT] at h
  ·rw [eR hs] at h
   have:=(List.cons_prefix_cons.1 h).1;subst this;obtain ⟨h1,h2⟩:=bJm s;refine ⟨?_,h2⟩
   rcases h1 with ⟨h1,h3⟩ | ⟨h1,h3,h4⟩
   ·exact ⟨_,h3,fun _=>⟨_,rfl⟩,fun h=>by dsimp only at h;rw [h1] at h;cases h⟩
   ·refine ⟨[],?_,fun h => ?_,fun _=>⟨rfl,?_⟩⟩
    ·dsimp only;rw [h3];simp [qL]
    ·dsimp only at h;rw [h1] at h;cases h
    ·dsimp only;rw [h3];exact hs
 | y::pre,x,s,h,hy=>by
  by_cases hs:s=[]
  ·subst hs;simp [jT] at h
  ·rw [eR hs] at h
   obtain ⟨h1,h2⟩:=List.cons_prefix_cons.1 (show y::(pre++[x]) <+: _::_ from h)
   subst h1;have ht:=hy ((Lib.cut s [10]).1,(Lib.cut s [10]).2.2) (lV ..)
   rcases (bJm s).1 with ⟨_,h3⟩ | ⟨h3,_⟩
   ·obtain ⟨⟨r,h4,h5⟩,h6⟩:=aKy pre x _ h2 (fun z hz=>hy z (by simp [hz]))
    refine ⟨⟨r,?_,h5⟩,h6⟩;rw [← h4];have:=bBj (Lib.cut s [10]).1 (Lib.cut s [10]).2.1 (qL pre);rw [← h3] at this
    exact this
   ·rw [h3] at ht;cases ht
theorem aEr:∀ (k:Nat) (s:List UInt8),s.length≤k→(∀ y∈cG s,y.2=true)→qL (cG s)=s.length
 | 0,s,h,_=>by
  have:s=[]:=tB (by omega)
  subst this;rfl
 | k+1,s,h,hy=>by
  by_cases hs:s=[]
  ·subst hs;rfl
  ·have hlt:=wI (s:=s) (x:=[10]) hs (by simp)
   rw [eR hs] at hy ⊢
   have ht:=hy ((Lib.cut s [10]).1,(Lib.cut s [10]).2.2) (lV ..);have:=aEr k (Lib.cut s [10]).2.1 (by omega) (fun y h=>hy y (Df _ h))
   rw [qL,this];exact aEk ht
end
end KV
end Go.Proofs
section
namespace Go.Proofs
open Go.RowKit
namespace KV
open Tryz
theorem aKx(z:Bool)(m:Int):∀ (l:List UInt8) (i:Nat) (n:Int),(kO z m l i n).2≠0→(kO z m l i n).1=0
 | [],i,n,h=>by
  unfold kO at h ⊢
  split
  ·rfl
  ·rename_i h0
   rw [if_neg h0] at h
   split
   ·rfl
   ·rename_i h1
    rw [if_neg h1] at h
    exact absurd rfl h
 | b::r,i,n,h=>by
  unfold kO at h ⊢
  split
  ·rfl
  ·rename_i h0
   rw [if_neg h0] at h
   exact aKx z m r _ _ h
theorem bJl{p:List UInt8}{m:Int}(h:(bK p m).2≠0):(bK p m).1=0:=aKx _ m p 0 0 h
theorem aTb{p:List UInt8}(ha:p.all isd=true):0≤oK p 0:=aGn p 0 ha (by omega)
theorem aTc(p:List UInt8){m:Int}(hm:0≤m):(dE p m = -1∧bK p m=(0,11))∨(dE p m=m+1∧bK p m=(0,3))∨(0≤dE p m∧dE p m≤m∧bK p m=(dE p m,0)):=by
 by_cases h:p=[]∨(1<p.length∧p[0]? = some 48)∨p.all isd=false
 ·have h2:=qB (m:=m) h
  exact .inl ⟨uS h,Prod.ext (bJl (by rw [h2];decide)) h2⟩
 ·have hn:p≠[]:=fun e=>h (.inl e)
  have hz:¬ (1<p.length∧p[0]? = some 48):=fun e=>h (.inr (.inl e))
  have ha:p.all isd=true:=by
   cases q:p.all isd with
   | true=>rfl
   | false=>exact absurd (.inr (.inr q)) h
  have hv:=aTb ha;rw [aGp hm ha hn hz,aGo hm ha hn hz]
  by_cases q:m<oK p 0
  ·rw [if_pos q]
   exact .inr (.inl ⟨by omega,rfl⟩)
  ·rw [if_neg q,Int.min_eq_left (by omega)]
   exact .inr (.inr ⟨hv,by omega,rfl⟩)
theorem bPh(p:List UInt8){m m' sm:Int}(hm:0≤m)(h:m≤m')(hs:0≤sm∧sm≤m) :
  (dE p m'<0∧(bK p m).2=11)∨(0≤dE p m'∧dE p m'≠sm∧((bK p m).2=3∨(bK p m).2=0∧(bK p m).1≠sm))∨(dE p m'=sm∧bK p m=(sm,0)):=by
 by_cases hb:p=[]∨(1<p.length∧p[0]? = some 48)∨p.all isd=false
 ·exact .inl ⟨by rw [uS hb];omega,qB hb⟩
 ·have hn:p≠[]:=fun e=>hb (.inl e)
  have hz:¬ (1<p.length∧p[0]? = some 48):=fun e=>hb (.inr (.inl e))
  have ha:p.all isd=true:=by
   cases q:p.all isd with
   | true=>rfl
   | false=>exact absurd (.inr (.inr q)) hb
  have hv:=aTb ha;rw [aGp (by omega) ha hn hz,aGo hm ha hn hz]
  by_cases q:m<oK p 0
  ·rw [if_pos q]
   exact .inr (.inl ⟨by omega,by omega,.inl rfl⟩)
  ·rw [if_neg q,Int.min_eq_left (by omega)]
   by_cases q2:oK p 0=sm
   ·exact .inr (.inr ⟨q2,by rw [q2]⟩)
   ·exact .inr (.inl ⟨hv,q2,.inr ⟨rfl,q2⟩⟩)
theorem cBg{X β ε:Type}{f:β→X→Except ε β}{a b:β}{x:X}(l:List X)(h:f a x = .ok b):itB f a (x::l)=itB f b l:=by
 rw [itB,h]
theorem cBh{X β ε:Type}{f:β→X→Except ε β}{a:β}{e:ε}{x:X}(l:List X)(h:f a x = .error e):itB f a (x::l) = .error e:=by
 rw [itB,h]
end KV
end Go.Proofs
end
namespace Go.Proofs
namespace KV
open Tryz
section
variable {b Mn:Bool}{k z e1 f1 r0 Bl Bn Ha A5 Bj e1'3 f1'2:Int}{i n w fo i' n' Ll Av Gm Gx base Kf:Nat}

noncomputable abbrev kY:Code:=sub (cd Tryz.f96) [1,1,1,0,1,0,0]
noncomputable abbrev mH:Code:=sub (cd Tryz.f207) [1,1,0,1,0,0]
noncomputable abbrev oU:Code:=sub (cd Tryz.f179) [1,1,0,1,0,0]
noncomputable abbrev sB:Code:=pS (cd Tryz.f95) 6 [0,0,0]
noncomputable abbrev xK:Code:=sub (cd Tryz.f97) [1,1,0,1,0,0]
theorem fL:((3:Int) == 3)=true:=by first | decide | simp
theorem jA:((2:Int) == 2)=true:=by first | decide | simp
theorem aAl:((3:Int) == 2)=false:=by first | decide | simp
theorem aAm:((2:Int) == 3)=false:=by first | decide | simp
theorem bGm:((0:Int) == 0)=true:=by first | decide | simp
theorem bQs:((2:Int) == 1)=false:=by first | decide | simp
theorem bQt:((2:Int) == 0)=false:=by first | decide | simp
theorem bQu:((3:Int) == 1)=false:=by first | decide | simp
theorem bQv:((3:Int) == 0)=false:=by first | decide | simp
def gW(s:List UInt8)(i:Nat):St:=⟨fr 68 [(0,(pI 2)),(1,(.p (aC s))),(5,(pI (i:Int)))],[]⟩
theorem bUe{s:List UInt8}(h0:(s.length:Int)<5):FV Tp 207 [(pI 2),(.p (aC s))] base (pB false) []:=FV.fi func207 (rT 10) (gc jA (gc (bJ h0) (gc jA (Ap (bJ h0) (Db jA gn)))))
section
variable{s:List UInt8}(h0:(5:Int)≤(s.length:Int))
include h0
theorem bUf(h1:(8:Int)<(s.length:Int)):FV Tp 207 [(pI 2),(.p (aC s))] base (pB false) []:=FV.fi func207 ([bT,bT,bT,bT,bF,bF,bF,bT,bF]++rT 6) (B5 (bJ h1) (gc jA (gc (aJ h0) (gc jA (Ap (aJ h0) (Db jA gn))))))
theorem bUg(h1:(s.length:Int)≤8)(Bi:aE Tp 0 mH (gW s 0) (.exit 0) (gW s Av)):FV Tp 207 [(pI 2),(.p (aC s))] base (pB true) []:=FV.fi func207 ([bT,bT,bT,bT,bF,bF,bF,bT,bF,bT]++rF 11++[Bi.k 5 (gZ cf)]) (gc Bi.code (gc (aJ h1) (gc aAm (gc (aJ h1) (B5 aAm (Ap (aJ h1) (gc jA (gc (aJ h0) (gc jA (Ap (aJ h0) (Db jA gn)))))))))))
theorem bUh(h1:(s.length:Int)≤8)(Bi:aE Tp 0 mH (gW s 0) .ret (bS (gW s Av) [(4,(pB false))])):FV Tp 207 [(pI 2),(.p (aC s))] base (pB false) []:=FV.fi func207 ([bT,bT,bT,bT,bF,bF,bF,bT,bF,bT]++rF 11++[Bi.k 5 (gZ cf)]) (gc Bi.code (gc (aJ h1) (gc aAm (gc (aJ h1) (B5 aAm (Ap (aJ h1) (gc jA (gc (aJ h0) (gc jA (Ap (aJ h0) (Db jA gn)))))))))))
end
section
variable{s:List UInt8}{Ag:UInt8}(h0:(i:Int)<(s.length:Int))(h1:s[i]? = some Ag)
include h0 h1
theorem aWw(h2:(Ag.toNat:Int)≠120)(h3:(Ag.toNat:Int)≠111):aA Tp 0 mH (gW s i) .ret (bS (gW s i) [(4,(pB false))]):=aA.fi (gN [2,2,6,62] [] [(4,0)]) ([bT,bT,bT,bT,.x (.v (.int .u8 (Ag.toNat:Int)))]++rT 5++[.x (.v (.int .u8 (Ag.toNat:Int)))]++rT 7) (B5 (cL h3) (Au (cL h2) (gt ((s[i]?).map (fun b:UInt8=>PV.v (.int .u8 (b.toNat:Int)))=some (.v (.int .u8 (Ag.toNat:Int)))) (bP h1) (gt (0≤(i:Int)) (Bf _) (Ap (cL h2) (Au jA (gt ((s[i]?).map (fun b:UInt8=>PV.v (.int .u8 (b.toNat:Int)))=some (.v (.int .u8 (Ag.toNat:Int)))) (bP h1) (gt (0≤(i:Int)) (Bf _) (Ap jA (g0 h0))))))))))
theorem aWx(h2:(Ag.toNat:Int)≠120)(h3:(Ag.toNat:Int)=111)(h4:cq i)(Ai:i'=(i+1)):aA Tp 0 mH (gW s i) .normal (gW s i'):=by
 subst Ai;exact aA.fi (gZ cf) ([bT,bT,bT,bT,.x (.v (.int .u8 (Ag.toNat:Int)))]++rT 5++[.x (.v (.int .u8 (Ag.toNat:Int))),bT,bT]++rF 12) (gc h4 (gc (bD h3) (gc aAm (gc (bD h3) (Fb aAm (Ap (bD h3) (Au (cL h2) (gt ((s[i]?).map (fun b:UInt8=>PV.v (.int .u8 (b.toNat:Int)))=some (.v (.int .u8 (Ag.toNat:Int)))) (bP h1) (gt (0≤(i:Int)) (Bf _) (Ap (cL h2) (Au jA (gt ((s[i]?).map (fun b:UInt8=>PV.v (.int .u8 (b.toNat:Int)))=some (.v (.int .u8 (Ag.toNat:Int)))) (bP h1) (gt (0≤(i:Int)) (Bf _) (Ap jA (g0 h0)))))))))))))))
theorem aWy(h2:(Ag.toNat:Int)=120)(h3:cq i)(Ai:i'=(i+1)):aA Tp 0 mH (gW s i) .normal (gW s i'):=by
 subst Ai;exact aA.fi (gZ cf) ([bT,bT,bT,bT,.x (.v (.int .u8 (Ag.toNat:Int))),bT,bT]++rF 12) (gc h3 (N9 aAm (B5 (bD h2) (Au jA (gt ((s[i]?).map (fun b:UInt8=>PV.v (.int .u8 (b.toNat:Int)))=some (.v (.int .u8 (Ag.toNat:Int)))) (bP h1) (gt (0≤(i:Int)) (Bf _) (Ap jA (g0 h0))))))))
end
theorem aWz{s:List UInt8}(h0:(s.length:Int)≤(i:Int)):aA Tp 0 mH (gW s i) (.exit 0) (gW s i):=aA.fi (gZ cf) [bF] (gc (aJ h0) gn)
def gX(s:List UInt8)(i:Nat):St:=⟨fr 68 [(0,(pI 3)),(1,(.p (aC s))),(5,(pI (i:Int)))],[]⟩
theorem bUi{s:List UInt8}(h0:(s.length:Int)<1):FV Tp 207 [(pI 3),(.p (aC s))] base (pB false) []:=FV.fi func207 (rF 6++rT 10) (gc fL (gc (bJ h0) (gc fL (Ap (bJ h0) (Db fL (Fb aAl gn))))))
section
variable{s:List UInt8}(h0:(1:Int)≤(s.length:Int))
include h0
theorem bUj(h1:(12:Int)<(s.length:Int)):FV Tp 207 [(pI 3),(.p (aC s))] base (pB false) []:=FV.fi func207 (rF 6++[bT,bT,bT,bT,bF,bF,bF,bT,bF,bT,bT]) (gc (bJ h1) (gc fL (gc (aJ h0) (gc fL (Ap (aJ h0) (Db fL (Fb aAl gn)))))))
theorem bUk(h1:(s.length:Int)≤12)(Bi:aE Tp 0 mH (gX s 0) (.exit 0) (gX s Av)):FV Tp 207 [(pI 3),(.p (aC s))] base (pB true) []:=FV.fi func207 (rF 6++[bT,bT,bT,bT,bF,bF,bF,bT,bF,bT,bF,Bi.k 4 (gZ cf)]) (gc Bi.code (gc (aJ h1) (gc fL (gc (aJ h0) (gc fL (Ap (aJ h0) (Db fL (Fb aAl gn))))))))
theorem bUl(h1:(s.length:Int)≤12)(Bi:aE Tp 0 mH (gX s 0) .ret (bS (gX s Av) [(4,(pB false))])):FV Tp 207 [(pI 3),(.p (aC s))] base (pB false) []:=FV.fi func207 (rF 6++[bT,bT,bT,bT,bF,bF,bF,bT,bF,bT,bF,Bi.k 4 (gZ cf)]) (gc Bi.code (gc (aJ h1) (gc fL (gc (aJ h0) (gc fL (Ap (aJ h0) (Db fL (Fb aAl gn))))))))
end
section
variable{s:List UInt8}{Ag:UInt8}(h0:(i:Int)<(s.length:Int))(h1:s[i]? = some Ag)
include h0 h1
theorem aXa(h2:(Ag.toNat:Int)<97):aA Tp 0 mH (gX s i) .ret (bS (gX s i) [(4,(pB false))]):=aA.fi (gN [2,2,6,62] [] [(4,0)]) ([bT]++rF 5++[bT,bT,bT,.x (.v (.int .u8 (Ag.toNat:Int)))]++rT 9) (gc fL (gc (bJ h2) (gc fL (Db (bJ h2) (Au fL (gt ((s[i]?).map (fun b:UInt8=>PV.v (.int .u8 (b.toNat:Int)))=some (.v (.int .u8 (Ag.toNat:Int)))) (bP h1) (gt (0≤(i:Int)) (Bf _) (Ap fL (B5 aAl (g0 h0))))))))))
theorem aXb(h2:(97:Int)≤(Ag.toNat:Int))(h3:(122:Int)<(Ag.toNat:Int)):aA Tp 0 mH (gX s i) .ret (bS (gX s i) [(4,(pB false))]):=aA.fi (gN [2,2,6,62] [] [(4,0)]) ([bT]++rF 5++[bT,bT,bT,.x (.v (.int .u8 (Ag.toNat:Int))),bT,bT,bF,bF,bF,.x (.v (.int .u8 (Ag.toNat:Int))),bF,bT,bF,bT,bT]) (gc (bJ h3) (gc fL (gc (aJ h2) (gc fL (gc (aJ h2) (gt ((s[i]?).map (fun b:UInt8=>PV.v (.int .u8 (b.toNat:Int)))=some (.v (.int .u8 (Ag.toNat:Int)))) (bP h1) (gt (0≤(i:Int)) (Bf _) (Ap (aJ h2) (Au fL (gt ((s[i]?).map (fun b:UInt8=>PV.v (.int .u8 (b.toNat:Int)))=some (.v (.int .u8 (Ag.toNat:Int)))) (bP h1) (gt (0≤(i:Int)) (Bf _) (Ap fL (B5 aAl (g0 h0))))))))))))))
theorem aXc(h2:(97:Int)≤(Ag.toNat:Int))(h3:(Ag.toNat:Int)≤122)(h4:cq i)(Ai:i'=(i+1)):aA Tp 0 mH (gX s i) .normal (gX s i'):=by
 subst Ai;exact aA.fi (gZ cf) ([bT]++rF 5++[bT,bT,bT,.x (.v (.int .u8 (Ag.toNat:Int))),bT,bT,bF,bF,bF,.x (.v (.int .u8 (Ag.toNat:Int))),bF,bT,bF,bT,bF]) (gc h4 (gc (aJ h3) (gc fL (gc (aJ h2) (gc fL (gc (aJ h2) (gt ((s[i]?).map (fun b:UInt8=>PV.v (.int .u8 (b.toNat:Int)))=some (.v (.int .u8 (Ag.toNat:Int)))) (bP h1) (gt (0≤(i:Int)) (Bf _) (Ap (aJ h2) (Au fL (gt ((s[i]?).map (fun b:UInt8=>PV.v (.int .u8 (b.toNat:Int)))=some (.v (.int .u8 (Ag.toNat:Int)))) (bP h1) (gt (0≤(i:Int)) (Bf _) (Ap fL (B5 aAl (g0 h0)))))))))))))))
end
theorem aXd{s:List UInt8}(h0:(s.length:Int)≤(i:Int)):aA Tp 0 mH (gX s i) (.exit 0) (gX s i):=aA.fi (gZ cf) [bF] (gc (aJ h0) gn)
theorem cEo{c:UInt8}(h:isr c=true):(c.toNat:Int)=120∨((c.toNat:Int)≠120∧(c.toNat:Int)=111):=by
 simp only [isr,aAh,decide_eq_true_eq,beq_iff_eq] at h;omega
theorem cEp{c:UInt8}(h:isr c=false):(c.toNat:Int)≠120∧(c.toNat:Int)≠111:=by
 simp only [isr,Bool.or_eq_false_iff,decide_eq_false_iff_not,beq_eq_false_iff_ne] at h;exact h
theorem cEq{c:UInt8}(h:isl c=true):97≤(c.toNat:Int)∧(c.toNat:Int)≤122:=by
 simp only [isl,Cj,decide_eq_true_eq] at h;exact h
theorem cEr{c:UInt8}(h:isl c=false):(c.toNat:Int)<97∨(97≤(c.toNat:Int)∧122<(c.toNat:Int)):=by
 by_cases q:(c.toNat:Int)<97
 ·exact .inl q
 ·refine .inr ⟨by omega,?_⟩
  by_cases q2:122<(c.toNat:Int)
  ·exact q2
  ·exfalso
   have:isl c=true:=by simp only [isl,Cj,decide_eq_true_eq];omega
   rw [this] at h;cases h
theorem aRz{p:UInt8→Bool}{l:List UInt8}:l.any (fun c => !(p c)) = !(l.all p):=by
 rw [List.any_eq_not_all_not];simp
theorem bGn(s:List UInt8){base:Nat}:FV Tp 207 [.p (aB 2),.p (aC s)] base (pB (kQ s)) []:=by
 unfold kQ
 by_cases h:5≤s.length∧s.length≤8
 ·have hw:within (s.length:Int) 5 8=true:=dF.2 (by omega)
  rw [hw,aJr]
  rcases aE.find (P:=Tp) (k:=0) (b:=mH) (fun i=>gW s i) (fun i _=>bS (gW s i) [(4,.p (blP false))]) (gW s s.length) .ret (.exit 0) (by simp) (by simp) (fun c => !(isr c)) s
   (fun i c hx hp=>by
    have hi:=bG hx
    rcases cEo (by simpa using hp) with q | ⟨q1,q2⟩
    ·exact aWy (by omega) hx q (aL (by omega)) rfl
    ·exact aWx (by omega) hx q1 q2 (aL (by omega)) rfl)
   (fun i c hx hp=>by
    have hi:=bG hx;obtain ⟨q1,q2⟩:=cEp (c:=c) (by simpa using hp)
    exact aWw (by omega) hx q1 q2)
   (aWz (by omega)) with ⟨i,q,h1,h2,h3,h4⟩ | ⟨h1,h2,h3⟩
  ·have:s.all isr=false:=by
    cases e:s.all isr with
    | false=>rfl
    | true=>have:=jI.1 e q (Ci h1);simp [this] at h3
   rw [this];exact bUh (by omega) (by omega) h4
  ·rw [aRz] at h2
   have:s.all isr=true:=by simpa using h2
   rw [this];exact bUg (by omega) (by omega) h3
 ·have hw:within (s.length:Int) 5 8=false:=by
   cases e:within (s.length:Int) 5 8 with
   | false=>rfl
   | true=>have:=dF.1 e;omega
  rw [hw,Bool.false_and]
  by_cases h5:s.length<5
  ·exact bUe (by omega)
  ·exact bUf (by omega) (by omega)
theorem bGo(s:List UInt8){base:Nat}:FV Tp 207 [.p (aB 3),.p (aC s)] base (pB (kR s)) []:=by
 unfold kR
 by_cases h:1≤s.length∧s.length≤12
 ·have hw:within (s.length:Int) 1 12=true:=dF.2 (by omega)
  rw [hw,aJr]
  rcases aE.find (P:=Tp) (k:=0) (b:=mH) (fun i=>gX s i) (fun i _=>bS (gX s i) [(4,.p (blP false))]) (gX s s.length) .ret (.exit 0) (by simp) (by simp) (fun c => !(isl c)) s
   (fun i c hx hp=>by
    have hi:=bG hx;obtain ⟨q1,q2⟩:=cEq (c:=c) (by simpa using hp)
    exact aXc (by omega) hx q1 q2 (aL (by omega)) rfl)
   (fun i c hx hp=>by
    have hi:=bG hx
    rcases cEr (c:=c) (by simpa using hp) with q | ⟨q1,q2⟩
    ·exact aXa (by omega) hx q
    ·exact aXb (by omega) hx q1 q2)
   (aXd (by omega)) with ⟨i,q,h1,h2,h3,h4⟩ | ⟨h1,h2,h3⟩
  ·have:s.all isl=false:=by
    cases e:s.all isl with
    | false=>rfl
    | true=>have:=jI.1 e q (Ci h1);simp [this] at h3
   rw [this];exact bUl (by omega) (by omega) h4
  ·rw [aRz] at h2
   have:s.all isl=true:=by simpa using h2
   rw [this];exact bUk (by omega) (by omega) h3
 ·have hw:within (s.length:Int) 1 12=false:=by
   cases e:within (s.length:Int) 1 12 with
   | false=>rfl
   | true=>have:=dF.1 e;omega
  rw [hw,Bool.false_and]
  by_cases h5:s.length<1
  ·exact bUi (by omega)
  ·exact bUj (by omega) (by omega)
def eB(s:List UInt8)(k:Int)(i fo n:Nat)(g:List UInt8)(b:Bool):St:=⟨fr 36 [(0,(.p (aC s))),(1,(pI k)),(4,(.p (aC g))),(5,(pB b)),(6,(pI (fo:Int))),(7,(pI (n:Int))),(8,(pI (i:Int)))],[]⟩
theorem bUm{s Lm:List UInt8}(A2:aE Tp 0 oU (eB s k 0 0 0 ([]:List UInt8) false) (.exit 0) (eB s k Av Kf Gm Lm Mn)):FV Tp 179 [(.p (aC s)),(pI k)] base (.tup [(.p (aC ([]:List UInt8))),(pB false)]) []:=FV.fi func179 [A2.k 8 (gN cg [] [(5,0)])] (gc A2.code gn)
theorem bUn{s Lm:List UInt8}(A2:aE Tp 0 oU (eB s k 0 0 0 ([]:List UInt8) false) .ret (eB s k Av Kf Gm Lm Mn)):FV Tp 179 [(.p (aC s)),(pI k)] base (.tup [(.p (aC Lm)),(pB Mn)]) []:=FV.fi func179 [A2.k 8 (gN cg [] [(5,0)])] (gc A2.code gn)
section
variable{s:List UInt8}(h0:(i:Int)≤(s.length:Int))(h1:(i:Int)=(s.length:Int))
include h0 h1
theorem aXe{g g':List UInt8}(h2:(n:Int)=k)(h3:0≤(fo:Int)∧(fo:Int)≤(i:Int)∧(i:Int)≤(s.length:Int))(Mo:g'=((s.drop fo).take (i-fo))):aA Tp 0 oU (eB s k i fo n g b) .ret (eB s k i fo n g' true):=by
 subst Mo;exact aA.fi (gN cg [] [(5,0)]) (rT 7) (gc h3 (gc (cP h2) (B5 (cP h1) (gc (gO h0) gn))))
theorem aXf{g:List UInt8}(h2:(n:Int)≠k)(h3:cq i)(h4:cq n)(Ai:i'=(i+1))(I5:Ll=(i+1))(Fz:n'=(n+1)):aA Tp 0 oU (eB s k i fo n g b) .normal (eB s k i' Ll n' g b):=by
 subst Ai I5 Fz;exact aA.fi (gZ cg) (rT 6++[bF]) (gc h3 (gc h4 (gc h3 (gc (bA h2) (B5 (cP h1) (gc (gO h0) gn))))))
end
section
variable{s:List UInt8}{Ag:UInt8}(h0:(i:Int)≤(s.length:Int))(h1:(i:Int)≠(s.length:Int))(h2:s[i]? = some Ag)
include h0 h1 h2
theorem aXg{g g':List UInt8}(h3:(Ag.toNat:Int)=32)(h4:(n:Int)=k)(h5:0≤(fo:Int)∧(fo:Int)≤(i:Int)∧(i:Int)≤(s.length:Int))(Mo:g'=((s.drop fo).take (i-fo))):aA Tp 0 oU (eB s k i fo n g b) .ret (eB s k i fo n g' true):=by
 subst Mo;exact aA.fi (gN cg [] [(5,0)]) [bT,bF,bF,bF,.x (.v (.int .u8 (Ag.toNat:Int))),bF,bF,bT,bT] (gc h5 (gc (cP h4) (gc (cP h3) (Au (bA h1) (gt ((s[i]?).map (fun b:UInt8=>PV.v (.int .u8 (b.toNat:Int)))=some (.v (.int .u8 (Ag.toNat:Int)))) (bP h2) (gt (0≤(i:Int)) (Bf _) (Ap (bA h1) (gc (gO h0) gn))))))))
theorem aXh{g:List UInt8}(h3:(Ag.toNat:Int)=32)(h4:(n:Int)≠k)(h5:cq i)(h6:cq n)(Ai:i'=(i+1))(I5:Ll=(i+1))(Fz:n'=(n+1)):aA Tp 0 oU (eB s k i fo n g b) .normal (eB s k i' Ll n' g b):=by
 subst Ai I5 Fz;exact aA.fi (gZ cg) [bT,bF,bF,bF,.x (.v (.int .u8 (Ag.toNat:Int))),bF,bF,bT,bF] (gc h5 (gc h6 (gc h5 (gc (bA h4) (gc (cP h3) (Au (bA h1) (gt ((s[i]?).map (fun b:UInt8=>PV.v (.int .u8 (b.toNat:Int)))=some (.v (.int .u8 (Ag.toNat:Int)))) (bP h2) (gt (0≤(i:Int)) (Bf _) (Ap (bA h1) (gc (gO h0) gn))))))))))
theorem aXi{g:List UInt8}(h3:(Ag.toNat:Int)≠32)(h4:cq i)(Ai:i'=(i+1)):aA Tp 0 oU (eB s k i fo n g b) .normal (eB s k i' fo n g b):=by
 subst Ai;exact aA.fi (gZ cg) [bT,bF,bF,bF,.x (.v (.int .u8 (Ag.toNat:Int))),bF,bF,bF] (gc h4 (gc (bA h3) (Au (bA h1) (gt ((s[i]?).map (fun b:UInt8=>PV.v (.int .u8 (b.toNat:Int)))=some (.v (.int .u8 (Ag.toNat:Int)))) (bP h2) (gt (0≤(i:Int)) (Bf _) (Ap (bA h1) (gc (gO h0) gn)))))))
end
theorem aXj{s g:List UInt8}(h0:(s.length:Int)<(i:Int)):aA Tp 0 oU (eB s k i fo n g b) (.exit 0) (eB s k i fo n g b):=aA.fi (gZ cg) [bF] (gc (eQ h0) gn)
def sC(s:List UInt8)(fr:Nat):List (List UInt8):=if fr≤s.length then spB (s.drop fr) else []
theorem uO(s:List UInt8)(k:Int)(hs:s.length≤900000):∀ (m i fr n:Nat),s.length+1-i=m→i≤s.length+1→fr≤i→(i=s.length+1→fr=i)→n≤i→(n:Int)≤k→(∀ j b,fr≤j→j<i→s[j]? = some b→b≠32) →
  (∃ f i' Ez n',(sC s fr)[k.toNat-n]? = some f∧aE Tp 0 oU (eB s k i fr n [] false) .ret (eB s k i' Ez n' f true)) ∨
  (∃ i' Ez n',(sC s fr)[k.toNat-n]? = none∧aE Tp 0 oU (eB s k i fr n [] false) (.exit 0) (eB s k i' Ez n' [] false))
 | 0,i,fr,n,hm,hi,h1,h2,h3,h4,hb=>by
  have e:i=s.length+1:=by omega
  have e2:=h2 e;refine .inr ⟨i,fr,n,?_,.exit (aXj (by omega)) (by simp)⟩
  unfold sC;rw [if_neg (by omega)];rfl
 | m+1,i,fr,n,hm,hi,h1,h2,h3,h4,hb=>by
  have hl:i≤s.length:=by omega
  obtain ⟨g1,g2⟩:=cBi h1 hl hb;have et:sC s fr=spB (s.drop fr):=if_pos (by omega)
  by_cases he:i=s.length
  ·have g:=g1 he
   by_cases hk:(n:Int)=k
   ·refine .inl ⟨_,i,fr,n,?_,.exit (aXe (by omega) (by omega) hk (by omega) rfl) (by simp)⟩
    rw [et,g,show k.toNat-n=0 by omega];rfl
   ·rcases uO s k hs m (i+1) (i+1) (n+1) (by omega) (by omega) (by omega) (fun _=>rfl) (by omega) (by omega) (fun j b q1 q2=>by omega) with ⟨f,i',Ez,n',q1,q2⟩ | ⟨i',Ez,n',q1,q2⟩
    ·exfalso
     have:sC s (i+1)=[]:=if_neg (by omega)
     rw [this] at q1;cases q1
    ·refine .inr ⟨i',Ez,n',?_,.step (aXf (by omega) (by omega) hk (aL (by omega)) (aL (by omega)) rfl rfl rfl) q2⟩
     rw [et,g];obtain ⟨d,hd⟩:∃ d,k.toNat-n=d+1:=⟨k.toNat-n-1,by omega⟩
     rw [hd];rfl
  ·obtain ⟨c,hc⟩:∃ c,s[i]? = some c:=⟨s[i]'(by omega),Ch (by omega)⟩
   by_cases Io:(c.toNat:Int)=32
   ·have Pl:c=32:=UInt8.toNat_inj.1 (by have:c.toNat=32:=(by omega);simpa using this)
    subst Pl;have g:=g2 hc
    by_cases hk:(n:Int)=k
    ·refine .inl ⟨_,i,fr,n,?_,.exit (aXg (by omega) (by omega) hc Io hk (by omega) rfl) (by simp)⟩
     rw [et,g,show k.toNat-n=0 by omega];rfl
    ·have Pm:sC s (i+1)=spB (s.drop (i+1)):=if_pos (by omega)
     obtain ⟨d,hd,Ev⟩:∃ d,k.toNat-n=d+1∧k.toNat-(n+1)=d:=⟨k.toNat-n-1,by omega,by omega⟩
     have st:aA Tp 0 oU (eB s k i fr n [] false) .normal (eB s k (i+1) (i+1) (n+1) [] false):=aXh (by omega) (by omega) hc Io hk (aL (by omega)) (aL (by omega)) rfl rfl rfl
     have eg:(sC s fr)[k.toNat-n]? = (sC s (i+1))[k.toNat-(n+1)]? := by rw [et,g,Pm,hd,Ev];rfl
     rw [eg]
     rcases uO s k hs m (i+1) (i+1) (n+1) (by omega) (by omega) (by omega) (fun _=>rfl) (by omega) (by omega) (fun j b q1 q2=>by omega) with ⟨f,i',Ez,n',q1,q2⟩ | ⟨i',Ez,n',q1,q2⟩
     ·exact .inl ⟨f,i',Ez,n',q1,.step st q2⟩
     ·exact .inr ⟨i',Ez,n',q1,.step st q2⟩
   ·have A1:∀ j b,fr≤j→j<i+1→s[j]? = some b→b≠32:=fun j b q1 q2 q3=>by
     by_cases ej:j=i
     ·subst ej
      rw [hc] at q3;cases q3
      intro e;subst e;exact Io rfl
     ·exact hb j b q1 (by omega) q3
    have st:aA Tp 0 oU (eB s k i fr n [] false) .normal (eB s k (i+1) fr n [] false):=aXi (by omega) (by omega) hc Io (aL (by omega)) rfl
    rcases uO s k hs m (i+1) fr n (by omega) (by omega) (by omega) (fun q=>by omega) (by omega) h4 A1 with ⟨f,i',Ez,n',q1,q2⟩ | ⟨i',Ez,n',q1,q2⟩
    ·exact .inl ⟨f,i',Ez,n',q1,.step st q2⟩
    ·exact .inr ⟨i',Ez,n',q1,.step st q2⟩
theorem cI(s:List UInt8)(k:Int)(hs:s.length≤900000)(hk:0≤k){base:Nat}:FV Tp 179 [.p (aC s),.p (aB k)] base (.tup [.p (aC (bE s k.toNat).1),.p (blP (bE s k.toNat).2)]) []:=by
 have et:sC s 0=spB s:=by unfold sC;rw [if_pos (by omega)];rfl
 unfold bE
 rcases uO s k hs _ 0 0 0 rfl (by omega) (by omega) (by omega) (by omega) (by omega) (fun j b q1 q2=>by omega) with ⟨f,i',Ez,n',q1,q2⟩ | ⟨i',Ez,n',q1,q2⟩
 ·rw [et,Nat.sub_zero] at q1
  rw [q1];exact bUn q2
 ·rw [et,Nat.sub_zero] at q1
  rw [q1];exact bUm q2
section
variable{s:List UInt8}(h0:s.length≤100000)(h1:0≤(999999:Int)∧(999999:Int)≤1000000)
include h0 h1
theorem bUo(h2:(dE s 999999)<0):FV Tp 181 [(pI 0),(.p (aC s))] base (.tup [(.p (.agg [(aB 0),(aC ([]:List UInt8))])),(pI 11)]) []:=have k1:=fk 1 (fE s 999999 h0 h1) rfl;FV.fi func181 [bT,k1.o,bT] (gc (bJ h2) (gc k1 (gc bGm gn)))
theorem bUp(h2:(0:Int)≤(dE s 999999))(h3:(999999:Int)<(dE s 999999)):FV Tp 181 [(pI 0),(.p (aC s))] base (.tup [(.p (.agg [(aB 0),(aC ([]:List UInt8))])),(pI 3)]) []:=have k1:=fk 1 (fE s 999999 h0 h1) rfl;FV.fi func181 [bT,k1.o,bF,bT] (gc (bJ h3) (gc (aJ h2) (gc k1 (gc bGm gn))))
theorem bUq(h2:(0:Int)≤(dE s 999999))(h3:(dE s 999999)≤999999)(Ao:r0=(dE s 999999)):FV Tp 181 [(pI 0),(.p (aC s))] base (.tup [(.p (.agg [(aB r0),(aC ([]:List UInt8))])),(pI 0)]) []:=by
 subst Ao;have k1:=fk 1 (fE s 999999 h0 h1) rfl;exact FV.fi func181 [bT,k1.o,bF,bF] (gc (aJ h3) (gc (aJ h2) (gc k1 (gc bGm gn))))
end
theorem bUr{s:List UInt8}{r1:Int}(h0:s.length≤90000)(Ao:r0=((paM s).1))(Ee:r1=((paM s).2)):FV Tp 181 [(pI 1),(.p (aC s))] base (.tup [(.p (.agg [(aB r0),(aC ([]:List UInt8))])),(pI r1)]) []:=by
 subst Ao Ee;have k1:=fk 1 (bGz s h0) rfl;exact FV.fi func181 [bF,bT,k1.o] (gc k1 (gt (((1:Int) == 1)=true) (by first | decide | simp) (gt (((1:Int) == 0)=false) (by first | decide | simp) gn)))
theorem bUs{s:List UInt8}(h0:(kQ s)=false):FV Tp 181 [(pI 2),(.p (aC s))] base (.tup [(.p (.agg [(aB 0),(aC ([]:List UInt8))])),(pI 11)]) []:=FV.fi func181 [bF,bF,.c (pB (kQ s)) [],bT] (gc (cN h0) (gc (fk 1 (bGn s) rfl) (gc bQs (gc bQt gn))))
theorem bUt{s:List UInt8}(h0:(kQ s)=true):FV Tp 181 [(pI 2),(.p (aC s))] base (.tup [(.p (.agg [(aB 0),(aC s)])),(pI 0)]) []:=FV.fi func181 [bF,bF,.c (pB (kQ s)) [],bF] (gc (aO h0) (gc (fk 1 (bGn s) rfl) (gc bQs (gc bQt gn))))
theorem bUu{s:List UInt8}(h0:(kR s)=false):FV Tp 181 [(pI 3),(.p (aC s))] base (.tup [(.p (.agg [(aB 0),(aC ([]:List UInt8))])),(pI 11)]) []:=FV.fi func181 [bF,bF,.c (pB (kR s)) [],bT] (gc (cN h0) (gc (fk 1 (bGo s) rfl) (gc bQu (gc bQv gn))))
theorem bUv{s:List UInt8}(h0:(kR s)=true):FV Tp 181 [(pI 3),(.p (aC s))] base (.tup [(.p (.agg [(aB 0),(aC s)])),(pI 0)]) []:=FV.fi func181 [bF,bF,.c (pB (kR s)) [],bF] (gc (aO h0) (gc (fk 1 (bGo s) rfl) (gc bQu (gc bQv gn))))
theorem bGp(s:List UInt8)(h:s.length≤90000){base:Nat}:FV Tp 181 [.p (aB 0),.p (aC s)] base (.tup [.p (.agg [aB (rdM 0 s).1.1,aC (rdM 0 s).1.2]),.p (aB (rdM 0 s).2)]) []:=by
 have e:rdM 0 s=(((bK s 999999).1,[]),(bK s 999999).2):=rfl;rw [e]
 rcases aTc s (m:=999999) (by decide) with ⟨h1,h2⟩ | ⟨h1,h2⟩ | ⟨h1,h2,h3⟩
 ·rw [h2];exact bUo (by omega) (by decide) (by omega)
 ·rw [h2];exact bUp (by omega) (by decide) (by omega) (by omega)
 ·rw [h3];exact bUq (by omega) (by decide) h1 h2 rfl
theorem bGq(s:List UInt8)(h:s.length≤90000){base:Nat}:FV Tp 181 [.p (aB 1),.p (aC s)] base (.tup [.p (.agg [aB (rdM 1 s).1.1,aC (rdM 1 s).1.2]),.p (aB (rdM 1 s).2)]) []:=by
 have e:rdM 1 s=(((paM s).1,[]),(paM s).2):=rfl;rw [e];exact bUr h rfl rfl
theorem bGr(s:List UInt8)(h:s.length≤90000){base:Nat}:FV Tp 181 [.p (aB 2),.p (aC s)] base (.tup [.p (.agg [aB (rdM 2 s).1.1,aC (rdM 2 s).1.2]),.p (aB (rdM 2 s).2)]) []:=by
 by_cases q:kQ s=true
 ·have e:rdM 2 s=((0,s),0):=by simp [rdM,q]
  rw [e];exact bUt q
 ·have e:rdM 2 s=((0,[]),11):=by simp [rdM,q]
  rw [e];exact bUs (by simpa using q)
theorem bGs(s:List UInt8)(h:s.length≤90000){base:Nat}:FV Tp 181 [.p (aB 3),.p (aC s)] base (.tup [.p (.agg [aB (rdM 3 s).1.1,aC (rdM 3 s).1.2]),.p (aB (rdM 3 s).2)]) []:=by
 by_cases q:kR s=true
 ·have e:rdM 3 s=((0,s),0):=by simp [rdM,q]
  rw [e];exact bUv q
 ·have e:rdM 3 s=((0,[]),11):=by simp [rdM,q]
  rw [e];exact bUu (by simpa using q)
def cO(k:Int)(s:List UInt8)(i on:Nat)(oc:List PV)(f1 e1:Int):St:=⟨fr 70 [(1,(.p (aC s))),(5,(pI f1)),(6,(pI e1)),(7,(.p (bO (aK k)))),(10,(.own 0)),(11,(pI (i:Int)))],[some (.row 179 on oc)]⟩
section
variable{s:List UInt8}{Aj:List Cel}(h0:within k 0 4=true)(Ak:aE Tp 0 kY (cO k s 0 0 [] 0 0) (.exit 0) (cO k s Av Aj.length ((Aj.map cE).flatten) f1'2 e1'3))(h2:s.length≤900000)(h3:0≤((aK k).length:Int))
include h0 Ak h2 h3
theorem bMr(h4:((bE s (((aK k).length:Int)).toNat).2)=true)(h5:inR ((((aK k).length+1):Nat):Int))(Ao:r0=((((aK k).length+1):Nat):Int)):FMM Tp 96 [(pI k),(.p (aC s))] [] (.tup [(.p bM),(pI r0),(pI 11)]) []:=by
 subst Ao;have k1:=fk 0 (pZ k h0) rfl;have k2:=fk 1 (cI s ((aK k).length:Int) h2 h3) rfl;exact FMM.fi 0 gE func96 [k1.o,Ak.k 6 (gN aq [0] [(10,179)]),k2.o,bT] (gc h5 (gc h4 (gc k2 (gc Ak.code (gc k1 gn)))))
theorem bMs(h4:((bE s (((aK k).length:Int)).toNat).2)=false):FMM Tp 96 [(pI k),(.p (aC s))] [] (.tup [(.p (.sl Aj.length ((Aj.map cE).flatten))),(pI 0),(pI 0)]) []:=have k1:=fk 0 (pZ k h0) rfl;have k2:=fk 1 (cI s ((aK k).length:Int) h2 h3) rfl;FMM.fi 0 ⟨[],[],[0],[]⟩ func96 [k1.o,Ak.k 6 (gN aq [0] [(10,179)]),k2.o,bF] (gc h4 (gc k2 (gc Ak.code (gc k1 gn))))
end
theorem bMt{s:List UInt8}{Aj:List Cel}(h0:within k 0 4=true)(Ak:aE Tp 0 kY (cO k s 0 0 [] 0 0) .ret (bS (cO k s Av Aj.length ((Aj.map cE).flatten) f1'2 e1'3) [(4,(.p bM))])):FMM Tp 96 [(pI k),(.p (aC s))] [] (.tup [(.p bM),(pI f1'2),(pI e1'3)]) []:=have k1:=fk 0 (pZ k h0) rfl;FMM.fi 0 gE func96 [k1.o,Ak.k 6 (gN aq [0] [(10,179)])] (gc Ak.code (gc k1 gn))
theorem aOc{s:List UInt8}{o:List Cel}(h0:(i:Int)<((aK k).length:Int))(h1:s.length≤900000)(h2:0≤(i:Int))(h3:((bE s ((i:Int)).toNat).2)=false)(h4:cq i)(Aq:Bn=(((i+1):Nat):Int))(Ar:Bl=(11:Int)):aA Tp 0 kY (cO k s i o.length ((o.map cE).flatten) f1 e1) .ret (bS (cO k s i o.length ((o.map cE).flatten) Bn Bl) [(4,(.p bM))]):=by
 subst Aq Ar;have k1:=fk 1 (cI s (i:Int) h1 h2) rfl;exact aA.fi (gI ar [0]) [bT,k1.o,bT] (gc h4 (gc (cN h3) (gc k1 (g0 h0))))
section
variable{s:List UInt8}(h0:(i:Int)<((aK k).length:Int))(h1:s.length≤900000)(h2:0≤(i:Int))(h3:((bE s ((i:Int)).toNat).2)=true)
include h0 h1 h2 h3
theorem aOd{o:List Cel}(h4:(aK k)[i]? = some 0)(h5:((bE s ((i:Int)).toNat).1).length≤90000)(h6:((rdM 0 ((bE s ((i:Int)).toNat).1)).2)≠0)(h7:cq i)(Aq:Bn=(((i+1):Nat):Int))(Ar:Bl=((rdM 0 ((bE s ((i:Int)).toNat).1)).2)):aA Tp 0 kY (cO k s i o.length ((o.map cE).flatten) f1 e1) .ret (bS (cO k s i o.length ((o.map cE).flatten) Bn Bl) [(4,(.p bM))]):=by
 subst Aq Ar;have k1:=fk 1 (cI s (i:Int) h1 h2) rfl;have k2:=fk 1 (bGp ((bE s ((i:Int)).toNat).1) h5) rfl;exact aA.fi (gI ar [0]) [bT,k1.o,bF,.x (aB 0),k2.o,bT] (gc h7 (gc (cL h6) (gc k2 (gc (atm aB h4) (gc (ixn aB h4) (gc (aO h3) (gc k1 (g0 h0))))))))
theorem aOe{o o':List Cel}(h4:(aK k)[i]? = some 0)(h5:((bE s ((i:Int)).toNat).1).length≤90000)(h6:((rdM 0 ((bE s ((i:Int)).toNat).1)).2)=0)(h7:[(aB ((rdM 0 ((bE s ((i:Int)).toNat).1)).1.1)),(aC ((rdM 0 ((bE s ((i:Int)).toNat).1)).1.2))].length=1*2∧o.length+1≤1000000)(h8:cq i)(Ai:i'=(i+1))(Ca:o'.length=(o.length+1))(Cb:(o'.map cE).flatten=(((o.map cE).flatten)++[(aB ((rdM 0 ((bE s ((i:Int)).toNat).1)).1.1)),(aC ((rdM 0 ((bE s ((i:Int)).toNat).1)).1.2))])):aA Tp 0 kY (cO k s i o.length ((o.map cE).flatten) f1 e1) .normal (cO k s i' o'.length ((o'.map cE).flatten) f1 e1):=by
 subst Ai;have k1:=fk 1 (cI s (i:Int) h1 h2) rfl;have k2:=fk 1 (bGp ((bE s ((i:Int)).toNat).1) h5) rfl;rw [Ca,Cb];exact aA.fi (gI aq [3]) [bT,k1.o,bF,.x (aB 0),k2.o,bF] (gc h8 (gc h7 (gt ([(aB ((rdM 0 ((bE s ((i:Int)).toNat).1)).1.1)),(aC ((rdM 0 ((bE s ((i:Int)).toNat).1)).1.2))].length=2) (by first | decide | simp) (gc (bD h6) (gc k2 (gc (atm aB h4) (gc (ixn aB h4) (gc (aO h3) (gc k1 (g0 h0))))))))))
theorem aOf{o:List Cel}(h4:(aK k)[i]? = some 1)(h5:((bE s ((i:Int)).toNat).1).length≤90000)(h6:((rdM 1 ((bE s ((i:Int)).toNat).1)).2)≠0)(h7:cq i)(Aq:Bn=(((i+1):Nat):Int))(Ar:Bl=((rdM 1 ((bE s ((i:Int)).toNat).1)).2)):aA Tp 0 kY (cO k s i o.length ((o.map cE).flatten) f1 e1) .ret (bS (cO k s i o.length ((o.map cE).flatten) Bn Bl) [(4,(.p bM))]):=by
 subst Aq Ar;have k1:=fk 1 (cI s (i:Int) h1 h2) rfl;have k2:=fk 1 (bGq ((bE s ((i:Int)).toNat).1) h5) rfl;exact aA.fi (gI ar [0]) [bT,k1.o,bF,.x (aB 1),k2.o,bT] (gc h7 (gc (cL h6) (gc k2 (gc (atm aB h4) (gc (ixn aB h4) (gc (aO h3) (gc k1 (g0 h0))))))))
theorem aOg{o o':List Cel}(h4:(aK k)[i]? = some 1)(h5:((bE s ((i:Int)).toNat).1).length≤90000)(h6:((rdM 1 ((bE s ((i:Int)).toNat).1)).2)=0)(h7:[(aB ((rdM 1 ((bE s ((i:Int)).toNat).1)).1.1)),(aC ((rdM 1 ((bE s ((i:Int)).toNat).1)).1.2))].length=1*2∧o.length+1≤1000000)(h8:cq i)(Ai:i'=(i+1))(Ca:o'.length=(o.length+1))(Cb:(o'.map cE).flatten=(((o.map cE).flatten)++[(aB ((rdM 1 ((bE s ((i:Int)).toNat).1)).1.1)),(aC ((rdM 1 ((bE s ((i:Int)).toNat).1)).1.2))])):aA Tp 0 kY (cO k s i o.length ((o.map cE).flatten) f1 e1) .normal (cO k s i' o'.length ((o'.map cE).flatten) f1 e1):=by
 subst Ai;have k1:=fk 1 (cI s (i:Int) h1 h2) rfl;have k2:=fk 1 (bGq ((bE s ((i:Int)).toNat).1) h5) rfl;rw [Ca,Cb];exact aA.fi (gI aq [3]) [bT,k1.o,bF,.x (aB 1),k2.o,bF] (gc h8 (gc h7 (gt ([(aB ((rdM 1 ((bE s ((i:Int)).toNat).1)).1.1)),(aC ((rdM 1 ((bE s ((i:Int)).toNat).1)).1.2))].length=2) (by first | decide | simp) (gc (bD h6) (gc k2 (gc (atm aB h4) (gc (ixn aB h4) (gc (aO h3) (gc k1 (g0 h0))))))))))
theorem aOh{o:List Cel}(h4:(aK k)[i]? = some 2)(h5:((bE s ((i:Int)).toNat).1).length≤90000)(h6:((rdM 2 ((bE s ((i:Int)).toNat).1)).2)≠0)(h7:cq i)(Aq:Bn=(((i+1):Nat):Int))(Ar:Bl=((rdM 2 ((bE s ((i:Int)).toNat).1)).2)):aA Tp 0 kY (cO k s i o.length ((o.map cE).flatten) f1 e1) .ret (bS (cO k s i o.length ((o.map cE).flatten) Bn Bl) [(4,(.p bM))]):=by
 subst Aq Ar;have k1:=fk 1 (cI s (i:Int) h1 h2) rfl;have k2:=fk 1 (bGr ((bE s ((i:Int)).toNat).1) h5) rfl;exact aA.fi (gI ar [0]) [bT,k1.o,bF,.x (aB 2),k2.o,bT] (gc h7 (gc (cL h6) (gc k2 (gc (atm aB h4) (gc (ixn aB h4) (gc (aO h3) (gc k1 (g0 h0))))))))
theorem aOi{o o':List Cel}(h4:(aK k)[i]? = some 2)(h5:((bE s ((i:Int)).toNat).1).length≤90000)(h6:((rdM 2 ((bE s ((i:Int)).toNat).1)).2)=0)(h7:[(aB ((rdM 2 ((bE s ((i:Int)).toNat).1)).1.1)),(aC ((rdM 2 ((bE s ((i:Int)).toNat).1)).1.2))].length=1*2∧o.length+1≤1000000)(h8:cq i)(Ai:i'=(i+1))(Ca:o'.length=(o.length+1))(Cb:(o'.map cE).flatten=(((o.map cE).flatten)++[(aB ((rdM 2 ((bE s ((i:Int)).toNat).1)).1.1)),(aC ((rdM 2 ((bE s ((i:Int)).toNat).1)).1.2))])):aA Tp 0 kY (cO k s i o.length ((o.map cE).flatten) f1 e1) .normal (cO k s i' o'.length ((o'.map cE).flatten) f1 e1):=by
 subst Ai;have k1:=fk 1 (cI s (i:Int) h1 h2) rfl;have k2:=fk 1 (bGr ((bE s ((i:Int)).toNat).1) h5) rfl;rw [Ca,Cb];exact aA.fi (gI aq [3]) [bT,k1.o,bF,.x (aB 2),k2.o,bF] (gc h8 (gc h7 (gt ([(aB ((rdM 2 ((bE s ((i:Int)).toNat).1)).1.1)),(aC ((rdM 2 ((bE s ((i:Int)).toNat).1)).1.2))].length=2) (by first | decide | simp) (gc (bD h6) (gc k2 (gc (atm aB h4) (gc (ixn aB h4) (gc (aO h3) (gc k1 (g0 h0))))))))))
theorem aOj{o:List Cel}(h4:(aK k)[i]? = some 3)(h5:((bE s ((i:Int)).toNat).1).length≤90000)(h6:((rdM 3 ((bE s ((i:Int)).toNat).1)).2)≠0)(h7:cq i)(Aq:Bn=(((i+1):Nat):Int))(Ar:Bl=((rdM 3 ((bE s ((i:Int)).toNat).1)).2)):aA Tp 0 kY (cO k s i o.length ((o.map cE).flatten) f1 e1) .ret (bS (cO k s i o.length ((o.map cE).flatten) Bn Bl) [(4,(.p bM))]):=by
 subst Aq Ar;have k1:=fk 1 (cI s (i:Int) h1 h2) rfl;have k2:=fk 1 (bGs ((bE s ((i:Int)).toNat).1) h5) rfl;exact aA.fi (gI ar [0]) [bT,k1.o,bF,.x (aB 3),k2.o,bT] (gc h7 (gc (cL h6) (gc k2 (gc (atm aB h4) (gc (ixn aB h4) (gc (aO h3) (gc k1 (g0 h0))))))))
theorem aOk{o o':List Cel}(h4:(aK k)[i]? = some 3)(h5:((bE s ((i:Int)).toNat).1).length≤90000)(h6:((rdM 3 ((bE s ((i:Int)).toNat).1)).2)=0)(h7:[(aB ((rdM 3 ((bE s ((i:Int)).toNat).1)).1.1)),(aC ((rdM 3 ((bE s ((i:Int)).toNat).1)).1.2))].length=1*2∧o.length+1≤1000000)(h8:cq i)(Ai:i'=(i+1))(Ca:o'.length=(o.length+1))(Cb:(o'.map cE).flatten=(((o.map cE).flatten)++[(aB ((rdM 3 ((bE s ((i:Int)).toNat).1)).1.1)),(aC ((rdM 3 ((bE s ((i:Int)).toNat).1)).1.2))])):aA Tp 0 kY (cO k s i o.length ((o.map cE).flatten) f1 e1) .normal (cO k s i' o'.length ((o'.map cE).flatten) f1 e1):=by
 subst Ai;have k1:=fk 1 (cI s (i:Int) h1 h2) rfl;have k2:=fk 1 (bGs ((bE s ((i:Int)).toNat).1) h5) rfl;rw [Ca,Cb];exact aA.fi (gI aq [3]) [bT,k1.o,bF,.x (aB 3),k2.o,bF] (gc h8 (gc h7 (gt ([(aB ((rdM 3 ((bE s ((i:Int)).toNat).1)).1.1)),(aC ((rdM 3 ((bE s ((i:Int)).toNat).1)).1.2))].length=2) (by first | decide | simp) (gc (bD h6) (gc k2 (gc (atm aB h4) (gc (ixn aB h4) (gc (aO h3) (gc k1 (g0 h0))))))))))
end
theorem aOl{s:List UInt8}{o:List Cel}(h0:((aK k).length:Int)≤(i:Int)):aA Tp 0 kY (cO k s i o.length ((o.map cE).flatten) f1 e1) (.exit 0) (cO k s i o.length ((o.map cE).flatten) f1 e1):=aA.fi (gI aq [0]) [bF] (gc (aJ h0) gn)
def rwM(k:Int)(s:List UInt8):List Cel × Int × Int:=match rdL (aK k) (spB s) 0 with
 | .inl cs=>if (spB s).length=(aK k).length then (cs,0,0) else ([],(((aK k).length+1:Nat):Int),11)
 | .inr p=>([],p.1,p.2)
theorem aOm:∀ (s u:List UInt8),u∈spB s→u.length≤s.length:=fun s u h=>by
 rw [← aGy] at h;exact aSu h
theorem aSa(s:List UInt8):0<(spB s).length:=by rw [← aGy];exact aAw _ _
theorem fV{s u:List UInt8}{i:Nat}(h:(spB s)[i]? = some u):bE s i=(u,true):=by unfold bE;rw [h]
theorem jO{s:List UInt8}{i:Nat}(h:(spB s)[i]? = none):bE s i=([],false):=by unfold bE;rw [h]
theorem aDq{k:Int}{s:List UInt8}(hs:s.length≤90000):∀ (ts:List Int) (us:List (List UInt8)) (i:Nat) (o:List Cel),(aK k).drop i=ts→(spB s).drop i=us→i≤(aK k).length→i≤(spB s).length→o.length=i →
  (∃ cs,rdL ts us i = .inl cs∧aE Tp 0 kY (cO k s i o.length ((o.map cE).flatten) 0 0) (.exit 0) (cO k s (aK k).length (o++cs).length (((o++cs).map cE).flatten) 0 0)) ∨
  (∃ fd er j o',rdL ts us i = .inr (fd,er)∧er≠0∧aE Tp 0 kY (cO k s i o.length ((o.map cE).flatten) 0 0) .ret (bS (cO k s j o'.length ((List.map cE o').flatten) fd er) [(4,(.p bM))]))
 | [],us,i,o,ht,hu,hi,hj,ho=>by
  have hl:(aK k).length≤i:=List.drop_eq_nil_iff.1 ht;have:i=(aK k).length:=by omega
  subst this;exact .inl ⟨[],rfl,by rw [List.append_nil];exact .exit (aOl (by omega)) (by simp)⟩
 | t::ts,[],i,o,ht,hu,hi,hj,ho=>by
  have hc:=iT k;have hl:=congrArg List.length ht;rw [pD,fQ] at hl
  have Bi:(spB s).length≤i:=List.drop_eq_nil_iff.1 hu;have hq:bE s ((i:Int)).toNat=([],false):=jO (List.getElem?_eq_none Bi);exact .inr ⟨_,11,i,o,rfl,by decide,.exit (aOc (by omega) (by omega) (by omega) (by rw [hq]) (aL (by omega)) rfl rfl) (by simp)⟩
 | t::ts,u::us,i,o,ht,hu,hi,hj,ho=>by
  have hc:=iT k;have hl:=congrArg List.length ht;rw [pD,fQ] at hl
  have Bi:=congrArg List.length hu;rw [pD,fQ] at Bi
  have h1:(aK k)[i]? = some t:=by
   have:=congrArg (fun l:List Int=>l[0]?) ht
   simpa using this
  have h2:(spB s)[i]? = some u:=by
   have:=congrArg (fun l:List (List UInt8)=>l[0]?) hu
   simpa using this
  have Hb:u.length≤90000:=iG (aOm s u (Ci h2)) hs;have hq:bE s ((i:Int)).toNat=(u,true):=fV h2;have H5:(aK k).drop (i+1)=ts:=by
   have:=congrArg List.tail ht;rw [List.tail_drop] at this;exact this
  have Mp:(spB s).drop (i+1)=us:=by
   have:=congrArg List.tail hu;rw [List.tail_drop] at this;exact this
  unfold rdL
  by_cases hz:(rdM t u).2=0
  ·rw [if_neg (by simp [hz])]
   have hs:aA Tp 0 kY (cO k s i o.length ((o.map cE).flatten) 0 0) .normal (cO k s (i+1) (o++[(rdM t u).1]).length (((o++[(rdM t u).1]).map cE).flatten) 0 0):=by
    rcases iX h1 with rfl | rfl | rfl | rfl
    ·exact aOe (by omega) (by omega) (by omega) (by rw [hq]) h1 (by rw [hq];exact Hb) (by rw [hq];exact hz) ⟨rfl,by omega⟩ (aL (by omega)) rfl (by simp) (by rw [hq];simp [cE])
    ·exact aOg (by omega) (by omega) (by omega) (by rw [hq]) h1 (by rw [hq];exact Hb) (by rw [hq];exact hz) ⟨rfl,by omega⟩ (aL (by omega)) rfl (by simp) (by rw [hq];simp [cE])
    ·exact aOi (by omega) (by omega) (by omega) (by rw [hq]) h1 (by rw [hq];exact Hb) (by rw [hq];exact hz) ⟨rfl,by omega⟩ (aL (by omega)) rfl (by simp) (by rw [hq];simp [cE])
    ·exact aOk (by omega) (by omega) (by omega) (by rw [hq]) h1 (by rw [hq];exact Hb) (by rw [hq];exact hz) ⟨rfl,by omega⟩ (aL (by omega)) rfl (by simp) (by rw [hq];simp [cE])
   rcases aDq ‹_› ts us (i+1) (o++[(rdM t u).1]) H5 Mp (by omega) (by omega) (by simp;omega) with ⟨cs,q1,q2⟩ | ⟨fd,er,j,o',q1,q2,q3⟩
   ·rw [q1]
    refine .inl ⟨_,rfl,?_⟩;rw [List.append_cons];exact .step hs q2
   ·rw [q1]
    exact .inr ⟨fd,er,j,o',rfl,q2,.step hs q3⟩
  ·rw [if_pos hz]
   refine .inr ⟨_,_,i,o,rfl,hz,?_⟩
   rcases iX h1 with rfl | rfl | rfl | rfl
   ·exact .exit (aOd (by omega) (by omega) (by omega) (by rw [hq]) h1 (by rw [hq];exact Hb) (by rw [hq];exact hz) (aL (by omega)) rfl (by rw [hq])) (by simp)
   ·exact .exit (aOf (by omega) (by omega) (by omega) (by rw [hq]) h1 (by rw [hq];exact Hb) (by rw [hq];exact hz) (aL (by omega)) rfl (by rw [hq])) (by simp)
   ·exact .exit (aOh (by omega) (by omega) (by omega) (by rw [hq]) h1 (by rw [hq];exact Hb) (by rw [hq];exact hz) (aL (by omega)) rfl (by rw [hq])) (by simp)
   ·exact .exit (aOj (by omega) (by omega) (by omega) (by rw [hq]) h1 (by rw [hq];exact Hb) (by rw [hq];exact hz) (aL (by omega)) rfl (by rw [hq])) (by simp)
theorem bGt:∀ (ts:List Int) (us:List (List UInt8)) (i:Nat) (cs:List Cel),rdL ts us i = .inl cs→ts.length≤us.length
 | [],us,i,cs,h=>Nat.zero_le _
 | t::ts,[],i,cs,h=>by cases h
 | t::ts,u::us,i,cs,h=>by
  unfold rdL at h
  split at h
  ·cases h
  ·split at h
   ·rename_i Bs h2
    have:=bGt ts us (i+1) Bs h2;simp only [fQ];omega
   ·cases h
theorem uP(k:Int)(s:List UInt8)(hk:within k 0 4=true)(hs:s.length≤90000){base:Nat}:FV Tp 96 [.p (aB k),.p (aC s)] base (.tup [.p (.sl (rwM k s).1.length (((rwM k s).1.map cE).flatten)),.p (aB (rwM k s).2.1),.p (aB (rwM k s).2.2)]) []:=by
 have hc:=iT k;refine FV.frz ?_ rfl;unfold rwM
 rcases aDq hs (aK k) (spB s) 0 [] rfl rfl (by omega) (by omega) rfl with ⟨cs,q1,q2⟩ | ⟨fd,er,j,o',q1,_,q2⟩
 ·rw [q1]
  have hle:=bGt _ _ _ _ q1;dsimp only
  by_cases hl:(spB s).length=(aK k).length
  ·rw [if_pos hl]
   have hq:bE s (((aK k).length:Int)).toNat=([],false):=jO (List.getElem?_eq_none (by rw [bMl];omega))
   exact bMs hk q2 (by omega) (by omega) (by rw [hq])
  ·rw [if_neg hl]
   have hq:(bE s (((aK k).length:Int)).toNat).2=true:=by
    rw [bMl];rw [fV (Ch (by omega))]
   exact FMM.wk (bMr hk q2 (by omega) (by omega) hq (aL (by omega)) rfl) rfl
 ·rw [q1]
  exact FMM.wk (bMt hk q2) rfl
def gH(k:Int)(r t:List Cel)(i:Nat)(z:Int):St:=⟨fr 44 [(1,(.p (.sl r.length ((r.map cE).flatten)))),(2,(.p (.sl t.length ((t.map cE).flatten)))),(6,(pI z)),(8,(pI (aN k))),(10,(pI (i:Int)))],[]⟩
theorem aOn{r t:List Cel}(h0:within k 0 4=true)(Ak:aE Tp 0 xK (gH k r t 0 0) (.exit 0) (gH k r t Av Ha)):FV Tp 97 [(pI k),(.p (.sl r.length ((r.map cE).flatten))),(.p (.sl t.length ((t.map cE).flatten)))] base (pI 0) []:=have k1:=fk 0 (pZ k h0) rfl;FV.fi func97 [k1.o,Ak.k 4 (gZ ax)] (gc Ak.code (gc k1 gn))
theorem aOo{r t:List Cel}(h0:within k 0 4=true)(Ak:aE Tp 0 xK (gH k r t 0 0) .ret (gH k r t Av Ha)):FV Tp 97 [(pI k),(.p (.sl r.length ((r.map cE).flatten))),(.p (.sl t.length ((t.map cE).flatten)))] base (pI Ha) []:=have k1:=fk 0 (pZ k h0) rfl;FV.fi func97 [k1.o,Ak.k 4 (gZ ax)] (gc Ak.code (gc k1 gn))
section
variable{r t:List Cel}{Bd Bm:List UInt8}(h0:(i:Int)<(aN k))(h1:r[i]? = some (A5,Bd))(h2:t[i]? = some (Bj,Bm))
include h0 h1 h2
theorem aXk{z':Int}(h3:A5≠Bj)(h4:inR (A5-Bj))(Mq:z'=(A5-Bj)):aA Tp 0 xK (gH k r t i z) .ret (gH k r t i z'):=by
 subst Mq;exact aA.fi (gZ ax) [bT,.x (aB A5),.x (aB Bj),bT,.x (aB A5),.x (aB Bj)] (gc h4 (gt (((t.map cE).flatten)[(i*2)]? = some (aB Bj)) (aQ (E:=cE) (i:=i) (f:=0) (k:=2) (fun _=>rfl) h2 rfl) (gc (bC (E:=cE) (k:=2) (i:=(i:Int)) (fun _=>rfl) (by decide) (Bf _) h2) (gt (((r.map cE).flatten)[(i*2)]? = some (aB A5)) (aQ (E:=cE) (i:=i) (f:=0) (k:=2) (fun _=>rfl) h1 rfl) (gc (bC (E:=cE) (k:=2) (i:=(i:Int)) (fun _=>rfl) (by decide) (Bf _) h1) (gc (cL h3) (gt (((t.map cE).flatten)[(i*2)]? = some (aB Bj)) (aQ (E:=cE) (i:=i) (f:=0) (k:=2) (fun _=>rfl) h2 rfl) (gc (bC (E:=cE) (k:=2) (i:=(i:Int)) (fun _=>rfl) (by decide) (Bf _) h2) (gt (((r.map cE).flatten)[(i*2)]? = some (aB A5)) (aQ (E:=cE) (i:=i) (f:=0) (k:=2) (fun _=>rfl) h1 rfl) (gc (bC (E:=cE) (k:=2) (i:=(i:Int)) (fun _=>rfl) (by decide) (Bf _) h1) (g0 h0)))))))))))
theorem aXl(h3:A5=Bj)(h4:cq i)(Ai:i'=(i+1)):aA Tp 0 xK (gH k r t i z) .normal (gH k r t i' z):=by
 subst Ai;exact aA.fi (gZ ax) [bT,.x (aB A5),.x (aB Bj),bF] (gc h4 (gc (bD h3) (gt (((t.map cE).flatten)[(i*2)]? = some (aB Bj)) (aQ (E:=cE) (i:=i) (f:=0) (k:=2) (fun _=>rfl) h2 rfl) (gc (bC (E:=cE) (k:=2) (i:=(i:Int)) (fun _=>rfl) (by decide) (Bf _) h2) (gt (((r.map cE).flatten)[(i*2)]? = some (aB A5)) (aQ (E:=cE) (i:=i) (f:=0) (k:=2) (fun _=>rfl) h1 rfl) (gc (bC (E:=cE) (k:=2) (i:=(i:Int)) (fun _=>rfl) (by decide) (Bf _) h1) (g0 h0)))))))
end
theorem aDr{r t:List Cel}(h0:(aN k)≤(i:Int)):aA Tp 0 xK (gH k r t i z) (.exit 0) (gH k r t i z):=aA.fi (gZ ax) [bF] (gc (aJ h0) gn)
def aAn(k:Int)(r t:List Cel):Int:=if aM k r 0≠aM k t 0 then aM k r 0-aM k t 0 else if aM k r 1≠aM k t 1 then aM k r 1-aM k t 1 else aM k r 2-aM k t 2
def kD(r:List Cel):Prop:=∀ c∈r,0≤c.1∧c.1≤1000000
theorem cEs{k:Int}{r:List Cel}{i:Nat}(hi:(i:Int)<aN k)(hl:aN k≤(r.length:Int)):∃ z,r[i]? = some (aM k r i,z):=by
 obtain ⟨c,hc⟩:∃ c,r[i]? = some c:=⟨r[i]'(by omega),Ch (by omega)⟩
 refine ⟨c.2,?_⟩;unfold aM;rw [if_pos hi,hc];rfl
theorem aGm{k:Int}{r:List Cel}{i:Nat}(hi:aN k≤(i:Int)):aM k r i=0:=if_neg (by omega)
theorem bGu{k:Int}{r:List Cel}(h:kD r)(i:Nat):0≤aM k r i∧aM k r i≤1000000:=by
 unfold aM
 split
 ·cases e:r[i]? with
  | none=>exact ⟨by decide,by decide⟩
  | some c=>exact h c (Ci e)
 ·exact ⟨by decide,by decide⟩
theorem bGv(k:Int):1≤aN k∧aN k≤3:=by
 unfold aN
 repeat' split
 all_goals decide
theorem vV{k:Int}{r t:List Cel}(h1:aN k≤(r.length:Int))(h2:aN k≤(t.length:Int))(n1:kD r)(n2:kD t)(i:Nat)(hi:i≤3) :
  (aM k r i=aM k t i∧(aA Tp 0 xK (gH k r t i 0) .normal (gH k r t (i+1) 0)∨aA Tp 0 xK (gH k r t i 0) (.exit 0) (gH k r t i 0)∧aN k≤(i:Int)))∨(aM k r i≠aM k t i∧aA Tp 0 xK (gH k r t i 0) .ret (gH k r t i (aM k r i-aM k t i))):=by
 have b1:=bGu (k:=k) n1 i;have b2:=bGu (k:=k) n2 i
 by_cases hk:(i:Int)<aN k
 ·obtain ⟨z,hz⟩:=cEs hk h1
  obtain ⟨y,hy⟩:=cEs hk h2
  by_cases e:aM k r i=aM k t i
  ·exact .inl ⟨e,.inl (aXl hk hz hy e (aL (by omega)) rfl)⟩
  ·exact .inr ⟨e,aXk hk hz hy e (by show _∧_;omega) rfl⟩
 ·exact .inl ⟨by rw [aGm (by omega),aGm (by omega)],.inr ⟨aDr (by omega),by omega⟩⟩
theorem aOp(k:Int)(r t:List Cel)(hw:within k 0 4=true)(h1:aN k≤(r.length:Int))(h2:aN k≤(t.length:Int))(n1:kD r)(n2:kD t){base:Nat}:FV Tp 97 [.p (aB k),.p (.sl r.length ((r.map cE).flatten)),.p (.sl t.length ((t.map cE).flatten))] base (pI (aAn k r t)) []:=by
 have kb:=bGv k;unfold aAn
 rcases vV h1 h2 n1 n2 0 (by omega) with ⟨e0,q0⟩ | ⟨e0,q0⟩
 ·rw [if_neg (by simpa using e0)]
  rcases q0 with q0 | ⟨q0,hk⟩
  ·rcases vV h1 h2 n1 n2 1 (by omega) with ⟨e1,q1⟩ | ⟨e1,q1⟩
   ·rw [if_neg (by simpa using e1)]
    rcases q1 with q1 | ⟨q1,hk⟩
    ·rcases vV h1 h2 n1 n2 2 (by omega) with ⟨e2,q2⟩ | ⟨e2,q2⟩
     ·rw [show aM k r 2-aM k t 2=0 by omega]
      rcases q2 with q2 | ⟨q2,hk⟩
      ·exact aOn hw (.step q0 (.step q1 (.step q2 (.exit (aDr (i:=3) (by omega)) (by simp)))))
      ·exact aOn hw (.step q0 (.step q1 (.exit q2 (by simp))))
     ·exact aOo hw (.step q0 (.step q1 (.exit q2 (by simp))))
    ·rw [aGm (i:=2) (by omega),aGm (i:=2) (by omega)]
     exact aOn hw (.step q0 (.exit q1 (by simp)))
   ·rw [if_pos e1]
    exact aOo hw (.step q0 (.exit q1 (by simp)))
  ·omega
 ·rw [if_pos e0]
  exact aOo hw (.exit q0 (by simp))
theorem bMu(k:Int)(r t:List Cel):(aAn k r t=0↔bV k r t=0)∧(0<aAn k r t↔bV k r t=1):=by
 unfold aAn bV E3 kE
 repeat' split
 all_goals omega
theorem bUw{x0:PV}(h0:0≤k∧k<5)(h1:[(aC ([115,116,97,114,116,115]:List UInt8)),(aC ([112,97,115,115,101,115]:List UInt8)),(aC ([116,97,114,103,101,116,115]:List UInt8)),(aC ([106,117,100,103,101,109,101,110,116,115]:List UInt8)),(aC ([99,117,112,115]:List UInt8))][(k.toNat*1)]? = some x0):FV Tp 180 [(pI k)] base (.p x0) []:=FV.fi func180 [.x x0] (gc h1 (gc h0 gn))
theorem bGw(k:Int)(h:0≤k∧k<5){base:Nat}:FV Tp 180 [.p (aB k)] base (.p (aC (oW k))) []:=by
 have:k=0∨k=1∨k=2∨k=3∨k=4:=by omega
 rcases this with rfl | rfl | rfl | rfl | rfl
 all_goals exact bUw (by decide) rfl
def eP(s:List UInt8)(w:Nat):St:=⟨fr 62 [(0,(.p (aC s))),(2,(pI 0)),(3,(pI 0)),(4,(pI 0)),(5,(pI 0)),(6,(.p (aC ((bE s ((1:Int)).toNat).1)))),(8,(pB ((bE s ((1:Int)).toNat).2))),(9,(pI (w:Int)))],[]⟩
theorem bUx{s:List UInt8}(h0:s.length≤900000)(h1:0≤(0:Int))(h2:((bE s ((0:Int)).toNat).1)≠([107,108,105,115,116,101,114]:List UInt8)):FV Tp 95 [(.p (aC s))] base (.tup [(pI 0),(pI 0),(pI 1),(pI 11)]) []:=have k1:=fk 0 (cI s 0 h0 h1) rfl;FV.fi func95 [k1.o,bT] (gc (cN (decide_eq_false h2)) (gc k1 gn))
section
variable{s:List UInt8}(h0:s.length≤900000)(h1:0≤(0:Int))(h2:((bE s ((0:Int)).toNat).1)=([107,108,105,115,116,101,114]:List UInt8))(h3:0≤(1:Int))
include h0 h1 h2 h3
theorem bUy(h4:((bE s ((1:Int)).toNat).2)=false):FV Tp 95 [(.p (aC s))] base (.tup [(pI 0),(pI 0),(pI 2),(pI 11)]) []:=have k1:=fk 0 (cI s 0 h0 h1) rfl;have k2:=fk 0 (cI s 1 h0 h3) rfl;FV.fi func95 [k1.o,bF,k2.o,bT] (gc (cN h4) (gc k2 (gc (aO (decide_eq_true h2)) (gc k1 gn))))
theorem bUz(h4:((bE s ((1:Int)).toNat).2)=true)(Cc:aE Tp 0 sB (eP s 0) (.exit 0) (eP s Gx))(h6:(Gx:Int)=5):FV Tp 95 [(.p (aC s))] base (.tup [(pI 0),(pI 0),(pI 2),(pI 12)]) []:=have k1:=fk 0 (cI s 0 h0 h1) rfl;have k2:=fk 0 (cI s 1 h0 h3) rfl;FV.fi func95 [k1.o,bF,k2.o,bF,Cc.k 4 (gZ b8),bT] (gc (cP h6) (gc Cc.code (gc (aO h4) (gc k2 (gc (aO (decide_eq_true h2)) (gc k1 gn))))))
end
section
variable{s:List UInt8}(h0:s.length≤900000)(h1:0≤(0:Int))(h2:((bE s ((0:Int)).toNat).1)=([107,108,105,115,116,101,114]:List UInt8))(h3:0≤(1:Int))(h4:((bE s ((1:Int)).toNat).2)=true)(Cc:aE Tp 0 sB (eP s 0) (.exit 0) (eP s Gx))(h6:(Gx:Int)≠5)(h7:0≤(2:Int))(h8:((bE s ((2:Int)).toNat).1).length≤100000)(h9:0≤(200:Int)∧(200:Int)≤1000000)
include h0 h1 h2 h3 h4 Cc h6 h7 h8 h9
theorem bVa(Ba:((bE s ((2:Int)).toNat).2)=false):FV Tp 95 [(.p (aC s))] base (.tup [(pI 0),(pI 0),(pI 3),(pI 11)]) []:=have k1:=fk 0 (cI s 0 h0 h1) rfl;have k2:=fk 0 (cI s 1 h0 h3) rfl;have k3:=fk 0 (cI s 2 h0 h7) rfl;have k4:=fk 0 (fE ((bE s ((2:Int)).toNat).1) 200 h8 h9) rfl;FV.fi func95 [k1.o,bF,k2.o,bF,Cc.k 4 (gZ b8),bF,k3.o,k4.o,bT,bT,bT] (Ap (cN Ba) (gc k4 (gc k3 (gc (bA h6) (gc Cc.code (gc (aO h4) (gc k2 (gc (aO (decide_eq_true h2)) (gc k1 gn)))))))))
theorem bVb(Ba:((bE s ((2:Int)).toNat).2)=true)(Bt:(dE ((bE s ((2:Int)).toNat).1) 200)<0):FV Tp 95 [(.p (aC s))] base (.tup [(pI 0),(pI 0),(pI 3),(pI 11)]) []:=have k1:=fk 0 (cI s 0 h0 h1) rfl;have k2:=fk 0 (cI s 1 h0 h3) rfl;have k3:=fk 0 (cI s 2 h0 h7) rfl;have k4:=fk 0 (fE ((bE s ((2:Int)).toNat).1) 200 h8 h9) rfl;FV.fi func95 [k1.o,bF,k2.o,bF,Cc.k 4 (gZ b8),bF,k3.o,k4.o,bF,bF,bF,bT] (gc (bJ Bt) (Ap (aO Ba) (gc k4 (gc k3 (gc (bA h6) (gc Cc.code (gc (aO h4) (gc k2 (gc (aO (decide_eq_true h2)) (gc k1 gn))))))))))
theorem bVc(Ba:((bE s ((2:Int)).toNat).2)=true)(Bt:(0:Int)≤(dE ((bE s ((2:Int)).toNat).1) 200))(Be:(200:Int)<(dE ((bE s ((2:Int)).toNat).1) 200)):FV Tp 95 [(.p (aC s))] base (.tup [(pI 0),(pI 0),(pI 3),(pI 3)]) []:=have k1:=fk 0 (cI s 0 h0 h1) rfl;have k2:=fk 0 (cI s 1 h0 h3) rfl;have k3:=fk 0 (cI s 2 h0 h7) rfl;have k4:=fk 0 (fE ((bE s ((2:Int)).toNat).1) 200 h8 h9) rfl;FV.fi func95 [k1.o,bF,k2.o,bF,Cc.k 4 (gZ b8),bF,k3.o,k4.o,bF,bF,bF,bF,bT] (gc (bJ Be) (gc (aJ Bt) (Ap (aO Ba) (gc k4 (gc k3 (gc (bA h6) (gc Cc.code (gc (aO h4) (gc k2 (gc (aO (decide_eq_true h2)) (gc k1 gn)))))))))))
theorem bVd(Ba:((bE s ((2:Int)).toNat).2)=true)(Bt:(0:Int)≤(dE ((bE s ((2:Int)).toNat).1) 200))(Be:(dE ((bE s ((2:Int)).toNat).1) 200)≤200)(B1:0≤(3:Int))(Cs:((bE s ((3:Int)).toNat).2)=true):FV Tp 95 [(.p (aC s))] base (.tup [(pI 0),(pI 0),(pI 4),(pI 11)]) []:=have k1:=fk 0 (cI s 0 h0 h1) rfl;have k2:=fk 0 (cI s 1 h0 h3) rfl;have k3:=fk 0 (cI s 2 h0 h7) rfl;have k4:=fk 0 (fE ((bE s ((2:Int)).toNat).1) 200 h8 h9) rfl;have k5:=fk 0 (cI s 3 h0 B1) rfl;FV.fi func95 ([k1.o,bF,k2.o,bF,Cc.k 4 (gZ b8),bF,k3.o,k4.o]++rF 5++[k5.o,bT]) (gc Cs (gc k5 (gc (aJ Be) (gc (aJ Bt) (Ap (aO Ba) (gc k4 (gc k3 (gc (bA h6) (gc Cc.code (gc (aO h4) (gc k2 (gc (aO (decide_eq_true h2)) (gc k1 gn)))))))))))))
theorem bVe(Ba:((bE s ((2:Int)).toNat).2)=true)(Bt:(0:Int)≤(dE ((bE s ((2:Int)).toNat).1) 200))(Be:(dE ((bE s ((2:Int)).toNat).1) 200)≤200)(B1:0≤(3:Int))(Cs:((bE s ((3:Int)).toNat).2)=false)(Ao:r0=(dE ((bE s ((2:Int)).toNat).1) 200)):FV Tp 95 [(.p (aC s))] base (.tup [(pI (Gx:Int)),(pI r0),(pI 0),(pI 0)]) []:=by
 subst Ao;have k1:=fk 0 (cI s 0 h0 h1) rfl;have k2:=fk 0 (cI s 1 h0 h3) rfl;have k3:=fk 0 (cI s 2 h0 h7) rfl;have k4:=fk 0 (fE ((bE s ((2:Int)).toNat).1) 200 h8 h9) rfl;have k5:=fk 0 (cI s 3 h0 B1) rfl;exact FV.fi func95 ([k1.o,bF,k2.o,bF,Cc.k 4 (gZ b8),bF,k3.o,k4.o]++rF 5++[k5.o,bF]) (gc Cs (gc k5 (gc (aJ Be) (gc (aJ Bt) (Ap (aO Ba) (gc k4 (gc k3 (gc (bA h6) (gc Cc.code (gc (aO h4) (gc k2 (gc (aO (decide_eq_true h2)) (gc k1 gn)))))))))))))
end
section
variable(h0:(w:Int)<5)(h1:0≤(w:Int)∧(w:Int)<5)
include h0 h1
theorem aXm{s:List UInt8}{w':Nat}(h2:(oW (w:Int))≠((bE s ((1:Int)).toNat).1))(h3:cq w)(Pn:w'=(w+1)):aA Tp 0 sB (eP s w) .normal (eP s w'):=by
 subst Pn;have k1:=fk 0 (bGw (w:Int) h1) rfl;exact aA.fi (gZ b8) [bT,bT,k1.o,bT,bT,bT,bT] (gc h3 (gc (cN (decide_eq_false h2)) (Ap (bJ h0) (gc k1 (gc (bJ h0) (g0 h0))))))
theorem aXn{s:List UInt8}(h2:(oW (w:Int))=((bE s ((1:Int)).toNat).1)):aA Tp 0 sB (eP s w) (.exit 0) (eP s w):=have k1:=fk 0 (bGw (w:Int) h1) rfl;aA.fi (gZ b8) [bT,bT,k1.o,bT,bT,bT,bF] (gc (aO (decide_eq_true h2)) (Ap (bJ h0) (gc k1 (gc (bJ h0) (g0 h0)))))
end
theorem aXo{s:List UInt8}(h0:(5:Int)≤(w:Int)):aA Tp 0 sB (eP s w) (.exit 0) (eP s w):=aA.fi (gZ b8) (rF 5) (B5 (aJ h0) gn)
def hdR(fs:List (List UInt8)):Int × Int × Int × Int:=if (hdM fs).2.2.2=0 then (Di (hdM fs).1,(hdM fs).2.1,0,0) else (0,0,(hdM fs).2.2.1,(hdM fs).2.2.2)
theorem uQ(u:List UInt8):(∃ w:Nat,w<5∧dN u=(w:Int)∧oW (w:Int)=u∧∀ j:Nat,j<w→oW (j:Int)≠u)∨(dN u = -1∧∀ j:Nat,j<5→oW (j:Int)≠u):=by
 unfold dN
 by_cases h0:u=([115,116,97,114,116,115]:List UInt8)
 ·subst h0;exact .inl ⟨0,by decide,by decide,by decide,fun j h=>by omega⟩
 ·rw [if_neg h0]
  by_cases h1:u=([112,97,115,115,101,115]:List UInt8)
  ·subst h1;exact .inl ⟨1,by decide,by decide,by decide,by decide⟩
  ·rw [if_neg h1]
   by_cases h2:u=([116,97,114,103,101,116,115]:List UInt8)
   ·subst h2;exact .inl ⟨2,by decide,by decide,by decide,by decide⟩
   ·rw [if_neg h2]
    by_cases h3:u=([106,117,100,103,101,109,101,110,116,115]:List UInt8)
    ·subst h3;exact .inl ⟨3,by decide,by decide,by decide,by decide⟩
    ·rw [if_neg h3]
     by_cases h4:u=([99,117,112,115]:List UInt8)
     ·subst h4;exact .inl ⟨4,by decide,by decide,by decide,by decide⟩
     ·rw [if_neg h4]
      refine .inr ⟨rfl,fun j hj e => ?_⟩
      have:j=0∨j=1∨j=2∨j=3∨j=4:=by omega
      rcases this with rfl | rfl | rfl | rfl | rfl
      ·exact h0 e.symm
      ·exact h1 e.symm
      ·exact h2 e.symm
      ·exact h3 e.symm
      ·exact h4 e.symm
theorem aAo{s u:List UInt8}(hq:bE s ((1:Int)).toNat=(u,true))(W:Nat)(hW:W≤5)(hn:∀ j:Nat,j<W→oW (j:Int)≠u)(he:W=5∨oW (W:Int)=u):∀ (m i:Nat),W-i=m→i≤W→aE Tp 0 sB (eP s i) (.exit 0) (eP s W)
 | 0,i,hm,hi=>by
  have:i=W:=by omega
  subst this
  by_cases h5:i=5
  ·exact .exit (aXo (by omega)) (by simp)
  ·have e:=he.resolve_left h5
   exact .exit (aXn (by omega) (by omega) (by rw [hq];exact e)) (by simp)
 | m+1,i,hm,hi=>by
  have hne:=hn i (by omega)
  exact .step (aXm (by omega) (by omega) (by rw [hq];exact hne) (aL (by omega)) rfl) (aAo hq W hW hn he m (i+1) (by omega) (by omega))
theorem bGx(s:List UInt8)(hs:s.length≤90000){base:Nat}:FV Tp 95 [.p (aC s)] base (.tup [.p (aB (hdR (spB s)).1),.p (aB (hdR (spB s)).2.1),.p (aB (hdR (spB s)).2.2.1),.p (aB (hdR (spB s)).2.2.2)]) []:=by
 have hpos:=aSa s;have f0:=kS (fs:=spB s) (j:=0) hpos;have Az:bE s ((0:Int)).toNat=(fld (spB s) 0,true):=fV f0;have R0:∀ f e,e≠0→∀ a b,hdM (spB s)=(a,b,f,e)→hdR (spB s)=(0,0,f,e):=fun f e he a b h=>by
  unfold hdR;rw [h];exact if_neg he
 have H0:hdM (spB s)=if (spB s).length=0∨fld (spB s) 0≠[107,108,105,115,116,101,114] then (-1,0,1,11)
  else if (spB s).length=1 then (-1,0,2,11)
  else if dN (fld (spB s) 1)<0 then (dN (fld (spB s) 1),0,2,12)
  else if (spB s).length=2 then (dN (fld (spB s) 1),0,3,11)
  else if (bK (fld (spB s) 2) 200).2≠0 then (dN (fld (spB s) 1),(bK (fld (spB s) 2) 200).1,3,(bK (fld (spB s) 2) 200).2)
  else if 3<(spB s).length then (dN (fld (spB s) 1),(bK (fld (spB s) 2) 200).1,4,11)
  else (dN (fld (spB s) 1),(bK (fld (spB s) 2) 200).1,0,0):=rfl
 by_cases h0:fld (spB s) 0=[107,108,105,115,116,101,114]
 ·rw [if_neg (show ¬ ((spB s).length=0∨fld (spB s) 0≠[107,108,105,115,116,101,114]) from fun q=>q.elim (fun q=>by omega) (fun q=>q h0))] at H0
  by_cases h1:(spB s).length=1
  ·rw [if_pos h1] at H0
   rw [R0 _ _ (by decide) _ _ H0]
   have Bu:bE s ((1:Int)).toNat=([],false):=jO (List.getElem?_eq_none (by show (spB s).length≤1;omega))
   exact bUy (by omega) (by decide) (by rw [Az];exact h0) (by decide) (by rw [Bu])
  ·rw [if_neg h1] at H0
   have f1:=kS (fs:=spB s) (j:=1) (by omega)
   have Bu:bE s ((1:Int)).toNat=(fld (spB s) 1,true):=fV f1
   rcases uQ (fld (spB s) 1) with ⟨w,g1,g2,g3,g4⟩ | ⟨g2,g4⟩
   ·have L:=aAo Bu w (by omega) g4 (.inr g3) _ 0 rfl (by omega)
    rw [if_neg (show ¬ dN (fld (spB s) 1)<0 by omega),g2] at H0
    have hmx:Di (w:Int)=(w:Int):=by unfold Di;split <;> omega
    by_cases h2:(spB s).length=2
    ·rw [if_pos h2] at H0
     rw [R0 _ _ (by decide) _ _ H0]
     have Dm:bE s ((2:Int)).toNat=([],false):=jO (List.getElem?_eq_none (by show (spB s).length≤2;omega))
     exact bVa (by omega) (by decide) (by rw [Az];exact h0) (by decide) (by rw [Bu]) L (by omega) (by decide) (by rw [Dm];simp) (by decide) (by rw [Dm])
    ·rw [if_neg h2] at H0
     have f2:=kS (fs:=spB s) (j:=2) (by omega)
     have Dm:bE s ((2:Int)).toNat=(fld (spB s) 2,true):=fV f2;have Bi:(fld (spB s) 2).length≤100000:=by have:=aOm s _ (Ci f2);omega
     rcases aTc (fld (spB s) 2) (m:=200) (by decide) with ⟨e1,e2⟩ | ⟨e1,e2⟩ | ⟨e1,e2,e3⟩
     ·rw [e2,if_pos (by decide)] at H0
      rw [R0 _ _ (by decide) _ _ H0]
      exact bVb (by omega) (by decide) (by rw [Az];exact h0) (by decide) (by rw [Bu]) L (by omega) (by decide) (by rw [Dm];exact Bi) (by decide) (by rw [Dm]) (by rw [Dm];dsimp only;omega)
     ·rw [e2,if_pos (by decide)] at H0
      rw [R0 _ _ (by decide) _ _ H0]
      exact bVc (by omega) (by decide) (by rw [Az];exact h0) (by decide) (by rw [Bu]) L (by omega) (by decide) (by rw [Dm];exact Bi) (by decide) (by rw [Dm]) (by rw [Dm];dsimp only;omega) (by rw [Dm];dsimp only;omega)
     ·rw [e3,if_neg (by simp)] at H0
      by_cases h3:3<(spB s).length
      ·rw [if_pos h3] at H0
       rw [R0 _ _ (by decide) _ _ H0]
       have Mr:(bE s ((3:Int)).toNat).2=true:=by show (bE s 3).2=true;rw [fV (kS (fs:=spB s) (j:=3) h3)]
       exact bVd (by omega) (by decide) (by rw [Az];exact h0) (by decide) (by rw [Bu]) L (by omega) (by decide) (by rw [Dm];exact Bi) (by decide) (by rw [Dm]) (by rw [Dm];dsimp only;omega) (by rw [Dm];dsimp only;omega) (by decide) Mr
      ·rw [if_neg h3] at H0
       have Mr:bE s ((3:Int)).toNat=([],false):=jO (List.getElem?_eq_none (by show (spB s).length≤3;omega))
       have hr:hdR (spB s)=((w:Int),dE (fld (spB s) 2) 200,0,0):=by unfold hdR;rw [H0];dsimp only;rw [if_pos rfl,hmx]
       rw [hr];exact bVe (by omega) (by decide) (by rw [Az];exact h0) (by decide) (by rw [Bu]) L (by omega) (by decide) (by rw [Dm];exact Bi) (by decide) (by rw [Dm]) (by rw [Dm];dsimp only;omega) (by rw [Dm];dsimp only;omega) (by decide) (by rw [Mr]) (by rw [Dm])
   ·have L:=aAo Bu 5 (by omega) g4 (.inl rfl) _ 0 rfl (by omega)
    rw [if_pos (show dN (fld (spB s) 1)<0 by omega)] at H0
    rw [R0 _ _ (by decide) _ _ H0]
    exact bUz (by omega) (by decide) (by rw [Az];exact h0) (by decide) (by rw [Bu]) L rfl
 ·rw [if_pos (.inr h0)] at H0
  rw [R0 _ _ (by decide) _ _ H0]
  exact bUx (by omega) (by decide) (by rw [Az];exact h0)
theorem bVf{s u:List UInt8}(h0:s.length≤900000)(h1:0≤(0:Int))(h2:((bE s ((0:Int)).toNat).1)≠([115,117,109]:List UInt8)):FV Tp 98 [(.p (aC s)),(.p (aC u))] base (.tup [(pI 1),(pI 11)]) []:=have k1:=fk 0 (cI s 0 h0 h1) rfl;FV.fi func98 [k1.o,bT] (gc (cN (decide_eq_false h2)) (gc k1 gn))
section
variable{s:List UInt8}(h0:s.length≤900000)(h1:0≤(0:Int))(h2:((bE s ((0:Int)).toNat).1)=([115,117,109]:List UInt8))(h3:0≤(1:Int))(h4:((bE s ((1:Int)).toNat).1).length≤100000)(h5:0≤(100000:Int)∧(100000:Int)≤1000000)
include h0 h1 h2 h3 h4 h5
theorem bVg{u:List UInt8}(h6:((bE s ((1:Int)).toNat).2)=false):FV Tp 98 [(.p (aC s)),(.p (aC u))] base (.tup [(pI 2),(pI 11)]) []:=have k1:=fk 0 (cI s 0 h0 h1) rfl;have k2:=fk 0 (cI s 1 h0 h3) rfl;have k3:=fk 0 (fE ((bE s ((1:Int)).toNat).1) 100000 h4 h5) rfl;FV.fi func98 [k1.o,bF,k2.o,k3.o,bT,bT,bT] (Ap (cN h6) (gc k3 (gc k2 (gc (aO (decide_eq_true h2)) (gc k1 gn)))))
theorem bVh{u:List UInt8}(h6:((bE s ((1:Int)).toNat).2)=true)(h7:(dE ((bE s ((1:Int)).toNat).1) 100000)<0):FV Tp 98 [(.p (aC s)),(.p (aC u))] base (.tup [(pI 2),(pI 11)]) []:=have k1:=fk 0 (cI s 0 h0 h1) rfl;have k2:=fk 0 (cI s 1 h0 h3) rfl;have k3:=fk 0 (fE ((bE s ((1:Int)).toNat).1) 100000 h4 h5) rfl;FV.fi func98 [k1.o,bF,k2.o,k3.o,bF,bF,bF,bT] (gc (bJ h7) (Ap (aO h6) (gc k3 (gc k2 (gc (aO (decide_eq_true h2)) (gc k1 gn))))))
theorem bVi{u:List UInt8}(h6:((bE s ((1:Int)).toNat).2)=true)(h7:(0:Int)≤(dE ((bE s ((1:Int)).toNat).1) 100000))(h8:u.length≤65536)(h9:(dE ((bE s ((1:Int)).toNat).1) 100000)≠(bN u)):FV Tp 98 [(.p (aC s)),(.p (aC u))] base (.tup [(pI 2),(pI 8)]) []:=have k1:=fk 0 (cI s 0 h0 h1) rfl;have k2:=fk 0 (cI s 1 h0 h3) rfl;have k3:=fk 0 (fE ((bE s ((1:Int)).toNat).1) 100000 h4 h5) rfl;have k4:=fk 0 (aAp u h8) rfl;FV.fi func98 [k1.o,bF,k2.o,k3.o,bF,bF,bF,bF,k4.o,bT] (gc (cL h9) (gc k4 (gc (aJ h7) (Ap (aO h6) (gc k3 (gc k2 (gc (aO (decide_eq_true h2)) (gc k1 gn))))))))
theorem bVj{u:List UInt8}(h6:((bE s ((1:Int)).toNat).2)=true)(h7:(0:Int)≤(dE ((bE s ((1:Int)).toNat).1) 100000))(h8:u.length≤65536)(h9:(dE ((bE s ((1:Int)).toNat).1) 100000)=(bN u))(Ba:0≤(2:Int))(Bt:((bE s ((2:Int)).toNat).2)=true):FV Tp 98 [(.p (aC s)),(.p (aC u))] base (.tup [(pI 3),(pI 11)]) []:=have k1:=fk 0 (cI s 0 h0 h1) rfl;have k2:=fk 0 (cI s 1 h0 h3) rfl;have k3:=fk 0 (fE ((bE s ((1:Int)).toNat).1) 100000 h4 h5) rfl;have k4:=fk 0 (aAp u h8) rfl;have k5:=fk 0 (cI s 2 h0 Ba) rfl;FV.fi func98 [k1.o,bF,k2.o,k3.o,bF,bF,bF,bF,k4.o,bF,k5.o,bT] (gc Bt (gc k5 (gc (bD h9) (gc k4 (gc (aJ h7) (Ap (aO h6) (gc k3 (gc k2 (gc (aO (decide_eq_true h2)) (gc k1 gn))))))))))
theorem bVk{u:List UInt8}(h6:((bE s ((1:Int)).toNat).2)=true)(h7:(0:Int)≤(dE ((bE s ((1:Int)).toNat).1) 100000))(h8:u.length≤65536)(h9:(dE ((bE s ((1:Int)).toNat).1) 100000)=(bN u))(Ba:0≤(2:Int))(Bt:((bE s ((2:Int)).toNat).2)=false):FV Tp 98 [(.p (aC s)),(.p (aC u))] base (.tup [(pI 0),(pI 0)]) []:=have k1:=fk 0 (cI s 0 h0 h1) rfl;have k2:=fk 0 (cI s 1 h0 h3) rfl;have k3:=fk 0 (fE ((bE s ((1:Int)).toNat).1) 100000 h4 h5) rfl;have k4:=fk 0 (aAp u h8) rfl;have k5:=fk 0 (cI s 2 h0 Ba) rfl;FV.fi func98 [k1.o,bF,k2.o,k3.o,bF,bF,bF,bF,k4.o,bF,k5.o,bF] (gc Bt (gc k5 (gc (bD h9) (gc k4 (gc (aJ h7) (Ap (aO h6) (gc k3 (gc k2 (gc (aO (decide_eq_true h2)) (gc k1 gn))))))))))
end
theorem bGy(s u:List UInt8)(hs:s.length≤90000)(hu:u.length≤65536){base:Nat}:FV Tp 98 [.p (aC s),.p (aC u)] base (.tup [.p (aB (lsM (spB s) (bN u)).1),.p (aB (lsM (spB s) (bN u)).2)]) []:=by
 have hpos:=aSa s;have f0:=kS (fs:=spB s) (j:=0) hpos;have Az:bE s ((0:Int)).toNat=(fld (spB s) 0,true):=fV f0;have hsm:=aOw u 0 (by decide)
 unfold lsM
 by_cases h0:fld (spB s) 0=[115,117,109]
 ·rw [if_neg (by simp [h0])]
  by_cases h1:(spB s).length<2
  ·rw [if_pos h1]
   have Bu:bE s ((1:Int)).toNat=([],false):=jO (List.getElem?_eq_none (by show (spB s).length≤1;omega))
   exact bVg (by omega) (by decide) (by rw [Az];exact h0) (by decide) (by rw [Bu];simp) (by decide) (by rw [Bu])
  ·rw [if_neg h1]
   have f1:=kS (fs:=spB s) (j:=1) (by omega)
   have Bu:bE s ((1:Int)).toNat=(fld (spB s) 1,true):=fV f1;have Ak:(fld (spB s) 1).length≤100000:=by have:=aOm s _ (Ci f1);omega
   rcases bPh (fld (spB s) 1) (m:=65520) (m':=100000) (sm:=bN u) (by decide) (by decide) ⟨hsm.1,by have:=hsm.2;show bN u≤65520;unfold bN;omega⟩ with ⟨e1,e2⟩ | ⟨e1,e2,e3⟩ | ⟨e1,e2⟩
   ·have ec:lsC (spB s) (bN u)=11:=by unfold lsC;rw [e2];simp
    rw [if_pos (by rw [ec];decide),ec]
    exact bVh (by omega) (by decide) (by rw [Az];exact h0) (by decide) (by rw [Bu];exact Ak) (by decide) (by rw [Bu]) (by rw [Bu];exact e1)
   ·have ec:lsC (spB s) (bN u)=8:=if_pos e3
    rw [if_pos (by rw [ec];decide),ec]
    exact bVi (by omega) (by decide) (by rw [Az];exact h0) (by decide) (by rw [Bu];exact Ak) (by decide) (by rw [Bu]) (by rw [Bu];exact e1) hu (by rw [Bu];exact e2)
   ·have ec:lsC (spB s) (bN u)=0:=by unfold lsC;rw [e2];simp
    rw [if_neg (by rw [ec];simp)]
    have e0:0≤dE (fld (spB s) 1) 100000:=by rw [e1];exact hsm.1
    by_cases h2:2<(spB s).length
    ·rw [if_pos h2]
     have Dm:(bE s ((2:Int)).toNat).2=true:=by show (bE s 2).2=true;rw [fV (kS (fs:=spB s) (j:=2) h2)]
     exact bVj (by omega) (by decide) (by rw [Az];exact h0) (by decide) (by rw [Bu];exact Ak) (by decide) (by rw [Bu]) (by rw [Bu];exact e0) hu (by rw [Bu];exact e1) (by decide) Dm
    ·rw [if_neg h2]
     have Dm:bE s ((2:Int)).toNat=([],false):=jO (List.getElem?_eq_none (by show (spB s).length≤2;omega))
     exact bVk (by omega) (by decide) (by rw [Az];exact h0) (by decide) (by rw [Bu];exact Ak) (by decide) (by rw [Bu]) (by rw [Bu];exact e0) hu (by rw [Bu];exact e1) (by decide) (by rw [Dm])
 ·rw [if_pos h0]
  exact bVf (by omega) (by decide) (by rw [Az];exact h0)
end
section
variable {e1 f1 kd l1 my Bl Bn Gk Bv Gl e1'7 f1'6 H2 l1'5 Gw:Int}{n p q n' p' Gm Dv Ac:Nat}

noncomputable abbrev iS:Code:=pS (cd Tryz.f16) 5 [0,0]
noncomputable abbrev lR:Code:=pS (cd Tryz.f16) 5 [0,0,0,0,1,1,0,0,0]
def dQ(s:List UInt8)(p:Nat)(my:Int)(n:Nat)(kd:Int)(Rn:Nat)(Rc:List PV)(l1 f1 e1:Int):St:=⟨fr 130 [(0,(.p (aC s))),(2,(.ptr 0 0)),(3,(pI l1)),(4,(pI f1)),(5,(pI e1)),(6,(.ptr 1 0)),(7,(pI (p:Int))),(8,(pI my)),(9,(pI (n:Int)))],[some (.box 32 [(pI 0),(.p bM)]),some (.box 32 [(pI kd),(.own 2)]),some (.row 173 Rn Rc)]⟩
theorem bTy{s:List UInt8}(h0:(65536:Int)<(s.length:Int)):FMM Tp 16 [(.p (aC s))] [] (.tup [(.p (.agg [(aB 0),bM])),(pI 0),(pI 0),(pI 10)]) []:=FMM.fi 0 gE func16 [bT] (g0 h0)
theorem bGj{s:List UInt8}{R'4:List (List Cel)}(h0:(s.length:Int)≤65536)(Ak:aE Tp 0 iS (dQ s 0 0 1 0 0 [] 0 0 0) .ret (dQ s Dv Gw Gm H2 R'4.length ((R'4.map rwE).flatten) l1'5 f1'6 e1'7)):FMM Tp 16 [(.p (aC s))] [] (.tup [(.p (.agg [(aB 0),bM])),(pI l1'5),(pI f1'6),(pI e1'7)]) []:=FMM.fi 0 gE func16 [bF,Ak.k 7 (gN bw [0,1,2] [(101001,173)])] (gc Ak.code (gc (aJ h0) gn))
def dL(s:List UInt8)(p:Nat)(my:Int)(n:Nat)(kd:Int)(R:List (List Cel))(l1 f1 e1:Int)(q:Nat):St:=⟨fr 130 [(0,(.p (aC s))),(2,(.ptr 0 0)),(3,(pI l1)),(4,(pI f1)),(5,(pI e1)),(6,(.ptr 1 0)),(7,(pI (p:Int))),(8,(pI my)),(9,(pI (n:Int))),(10,(pI (q:Int)))],[some (.box 32 [(pI 0),(.p bM)]),some (.box 32 [(pI kd),(.own 2)]),some (.row 173 R.length ((R.map rwE).flatten))]⟩
theorem aWm{s:List UInt8}{R:List (List Cel)}(h0:(1:Int)<(n:Int))(h1:inR (my+3))(h2:(n:Int)=(my+3))(h3:(p:Int)<(s.length:Int))(A3:Bv=(n:Int))(Aq:Bn=(1:Int))(Ar:Bl=(11:Int)):aA Tp 0 iS (dQ s p my n kd R.length ((R.map rwE).flatten) l1 f1 e1) .ret (dQ s p my n kd R.length ((R.map rwE).flatten) Bv Bn Bl):=by
 subst A3 Aq Ar;exact aA.fi (gI bw [0,1,2]) (rT 7) (gc (bJ h3) (gc (cP h2) (Au (bJ h0) (gc h1 (Au (bJ h0) (g0 h0))))))
theorem aWn{s:List UInt8}{R:List (List Cel)}(h0:(1:Int)<(n:Int))(h1:inR (my+3))(h2:(n:Int)≠(my+3))(Cl:aE Tp 0 lR (dL s p my n kd R l1 f1 e1 p) (.exit 2) (dL s p my n kd R l1 f1 e1 Ac))(h4:(Ac:Int)=(s.length:Int))(A3:Bv=(n:Int))(Aq:Bn=(1:Int))(Ar:Bl=(11:Int)):aA Tp 0 iS (dQ s p my n kd R.length ((R.map rwE).flatten) l1 f1 e1) .ret (dQ s p my n kd R.length ((R.map rwE).flatten) Bv Bn Bl):=by
 subst A3 Aq Ar;exact aA.fi (gI bw [0,1,2]) (rT 5++[bF,Cl.k 4 (gI c7 [0,1,2]),bT]) (gc (cP h4) (gc Cl.code (gc (bA h2) (Au (bJ h0) (gc h1 (Au (bJ h0) (g0 h0)))))))
section
variable{s:List UInt8}{R:List (List Cel)}{Ay:List Cel}(h0:(1:Int)<(n:Int))(h1:inR (my+3))(h2:(n:Int)≠(my+3))(Cl:aE Tp 0 lR (dL s p my n kd R l1 f1 e1 p) (.exit 2) (dL s p my n kd R l1 f1 e1 Ac))(h4:(Ac:Int)≠(s.length:Int))(h5:0≤(p:Int)∧(p:Int)≤(Ac:Int)∧(Ac:Int)≤(s.length:Int))(h6:(n:Int)≠1)(h7:inR (my+1))(h8:(n:Int)≤(my+1))(h9:within kd 0 4=true)(Ba:((s.drop p).take (Ac-p)).length≤90000)(Bt:((rwM kd ((s.drop p).take (Ac-p))).2.2)=0)(Be:(0:Int)<(R.length:Int))(B1:inR ((R.length:Int)-1))(Cs:0≤((R.length:Int)-1)∧((R.length:Int)-1)<(R.length:Int))(Dd:R[((R.length:Int)-1).toNat]? = some (Ay))(Ea:aN kd≤(Ay.length:Int))(Ek:aN kd≤(((rwM kd ((s.drop p).take (Ac-p))).1).length:Int))(Fy:kD Ay)(G8:kD ((rwM kd ((s.drop p).take (Ac-p))).1))
include h0 h1 h2 Cl h4 h5 h6 h7 h8 h9 Ba Bt Be B1 Cs Dd Ea Ek Fy G8
theorem aWo{R':List (List Cel)}(G9:(aAn kd Ay ((rwM kd ((s.drop p).take (Ac-p))).1))=0)(H3:(aAn kd Ay ((rwM kd ((s.drop p).take (Ac-p))).1))≤0)(H4:[(PV.sl (((rwM kd ((s.drop p).take (Ac-p))).1).length) ((((rwM kd ((s.drop p).take (Ac-p))).1).map cE).flatten))].length=1*1∧R.length+1≤1000000)(Cv:R'.length=(R.length+1))(Cw:(R'.map rwE).flatten=(((R.map rwE).flatten)++[(PV.sl (((rwM kd ((s.drop p).take (Ac-p))).1).length) ((((rwM kd ((s.drop p).take (Ac-p))).1).map cE).flatten))]))(A3:Bv=(n:Int))(Aq:Bn=(1:Int))(Ar:Bl=(5:Int)):aA Tp 0 iS (dQ s p my n kd R.length ((R.map rwE).flatten) l1 f1 e1) .ret (dQ s p my n kd R'.length ((R'.map rwE).flatten) Bv Bn Bl):=by
 subst A3 Aq Ar;have k1:=fk 3 (uP kd ((s.drop p).take (Ac-p)) h9 Ba) rfl;have k2:=fk 4 (aOp kd Ay ((rwM kd ((s.drop p).take (Ac-p))).1) h9 Ea Ek Fy G8) rfl;rw [Cv,Cw];exact aA.fi (gI bw [0,1,4]) (rT 5++[bF,Cl.k 4 (gI c7 [0,1,2]),bF,bF,bT,k1.o]++rT 6++[.x (.sl Ay.length ((Ay.map cE).flatten)),k2.o,bT,bF,bT]) (gt (((5:Int) != 0)=true) (by first | decide | simp) (gc H4 (gc (aJ H3) (gc (cP G9) (gc k2 (gt (((R.map rwE).flatten)[(((R.length:Int)-1).toNat*1)]? = some (.sl Ay.length ((Ay.map cE).flatten))) (aQ (E:=rwE) (i:=((R.length:Int)-1).toNat) (f:=0) (k:=1) (fun _=>rfl) Dd rfl) (gc Cs (gc B1 (gc (bJ Be) (B5 (cP Bt) (gc k1 (gc (gO h8) (gc h7 (gc (bA h6) (gc h5 (gc (bA h4) (gc Cl.code (gc (bA h2) (Au (bJ h0) (gc h1 (Au (bJ h0) (g0 h0))))))))))))))))))))))
theorem aWp{R':List (List Cel)}(G9:(aAn kd Ay ((rwM kd ((s.drop p).take (Ac-p))).1))≠0)(H3:(0:Int)<(aAn kd Ay ((rwM kd ((s.drop p).take (Ac-p))).1)))(H4:[(PV.sl (((rwM kd ((s.drop p).take (Ac-p))).1).length) ((((rwM kd ((s.drop p).take (Ac-p))).1).map cE).flatten))].length=1*1∧R.length+1≤1000000)(Cv:R'.length=(R.length+1))(Cw:(R'.map rwE).flatten=(((R.map rwE).flatten)++[(PV.sl (((rwM kd ((s.drop p).take (Ac-p))).1).length) ((((rwM kd ((s.drop p).take (Ac-p))).1).map cE).flatten))]))(A3:Bv=(n:Int))(Aq:Bn=(1:Int))(Ar:Bl=(4:Int)):aA Tp 0 iS (dQ s p my n kd R.length ((R.map rwE).flatten) l1 f1 e1) .ret (dQ s p my n kd R'.length ((R'.map rwE).flatten) Bv Bn Bl):=by
 subst A3 Aq Ar;have k1:=fk 3 (uP kd ((s.drop p).take (Ac-p)) h9 Ba) rfl;have k2:=fk 4 (aOp kd Ay ((rwM kd ((s.drop p).take (Ac-p))).1) h9 Ea Ek Fy G8) rfl;rw [Cv,Cw];exact aA.fi (gI bw [0,1,4]) (rT 5++[bF,Cl.k 4 (gI c7 [0,1,2]),bF,bF,bT,k1.o]++rT 6++[.x (.sl Ay.length ((Ay.map cE).flatten)),k2.o,bF,bT,bT]) (gt (((4:Int) != 0)=true) (by first | decide | simp) (gc H4 (gc (bJ H3) (gc (bA G9) (gc k2 (gt (((R.map rwE).flatten)[(((R.length:Int)-1).toNat*1)]? = some (.sl Ay.length ((Ay.map cE).flatten))) (aQ (E:=rwE) (i:=((R.length:Int)-1).toNat) (f:=0) (k:=1) (fun _=>rfl) Dd rfl) (gc Cs (gc B1 (gc (bJ Be) (B5 (cP Bt) (gc k1 (gc (gO h8) (gc h7 (gc (bA h6) (gc h5 (gc (bA h4) (gc Cl.code (gc (bA h2) (Au (bJ h0) (gc h1 (Au (bJ h0) (g0 h0))))))))))))))))))))))
theorem aWq{R':List (List Cel)}(G9:(aAn kd Ay ((rwM kd ((s.drop p).take (Ac-p))).1))≠0)(H3:(aAn kd Ay ((rwM kd ((s.drop p).take (Ac-p))).1))≤0)(H4:[(PV.sl (((rwM kd ((s.drop p).take (Ac-p))).1).length) ((((rwM kd ((s.drop p).take (Ac-p))).1).map cE).flatten))].length=1*1∧R.length+1≤1000000)(Kc:inR (((Ac+1):Nat):Int))(Kd:cq n)(I4:p'=(Ac+1))(Fz:n'=(n+1))(Cv:R'.length=(R.length+1))(Cw:(R'.map rwE).flatten=(((R.map rwE).flatten)++[(PV.sl (((rwM kd ((s.drop p).take (Ac-p))).1).length) ((((rwM kd ((s.drop p).take (Ac-p))).1).map cE).flatten))])):aA Tp 0 iS (dQ s p my n kd R.length ((R.map rwE).flatten) l1 f1 e1) .normal (dQ s p' my n' kd R'.length ((R'.map rwE).flatten) l1 f1 e1):=by
 subst I4 Fz;have k1:=fk 3 (uP kd ((s.drop p).take (Ac-p)) h9 Ba) rfl;have k2:=fk 4 (aOp kd Ay ((rwM kd ((s.drop p).take (Ac-p))).1) h9 Ea Ek Fy G8) rfl;rw [Cv,Cw];exact aA.fi (gI bw [0,1,4]) (rT 5++[bF,Cl.k 4 (gI c7 [0,1,2]),bF,bF,bT,k1.o]++rT 6++[.x (.sl Ay.length ((Ay.map cE).flatten)),k2.o,bF,bF,bF]) (gc Kd (gc Kc (gc (bD Bt) (gc H4 (gc (aJ H3) (gc (bA G9) (gc k2 (gt (((R.map rwE).flatten)[(((R.length:Int)-1).toNat*1)]? = some (.sl Ay.length ((Ay.map cE).flatten))) (aQ (E:=rwE) (i:=((R.length:Int)-1).toNat) (f:=0) (k:=1) (fun _=>rfl) Dd rfl) (gc Cs (gc B1 (gc (bJ Be) (B5 (cP Bt) (gc k1 (gc (gO h8) (gc h7 (gc (bA h6) (gc h5 (gc (bA h4) (gc Cl.code (gc (bA h2) (Au (bJ h0) (gc h1 (Au (bJ h0) (g0 h0))))))))))))))))))))))))
end
section
variable{s:List UInt8}{R:List (List Cel)}(h0:(1:Int)<(n:Int))(h1:inR (my+3))(h2:(n:Int)≠(my+3))(Cl:aE Tp 0 lR (dL s p my n kd R l1 f1 e1 p) (.exit 2) (dL s p my n kd R l1 f1 e1 Ac))(h4:(Ac:Int)≠(s.length:Int))(h5:0≤(p:Int)∧(p:Int)≤(Ac:Int)∧(Ac:Int)≤(s.length:Int))(h6:(n:Int)≠1)(h7:inR (my+1))
include h0 h1 h2 Cl h4 h5 h6 h7
theorem aNv{R':List (List Cel)}(h8:(n:Int)≤(my+1))(h9:within kd 0 4=true)(Ba:((s.drop p).take (Ac-p)).length≤90000)(Bt:((rwM kd ((s.drop p).take (Ac-p))).2.2)=0)(Be:(R.length:Int)≤0)(B1:[(PV.sl (((rwM kd ((s.drop p).take (Ac-p))).1).length) ((((rwM kd ((s.drop p).take (Ac-p))).1).map cE).flatten))].length=1*1∧R.length+1≤1000000)(Cs:inR (((Ac+1):Nat):Int))(Dd:cq n)(I4:p'=(Ac+1))(Fz:n'=(n+1))(Cv:R'.length=(R.length+1))(Cw:(R'.map rwE).flatten=(((R.map rwE).flatten)++[(PV.sl (((rwM kd ((s.drop p).take (Ac-p))).1).length) ((((rwM kd ((s.drop p).take (Ac-p))).1).map cE).flatten))])):aA Tp 0 iS (dQ s p my n kd R.length ((R.map rwE).flatten) l1 f1 e1) .normal (dQ s p' my n' kd R'.length ((R'.map rwE).flatten) l1 f1 e1):=by
 subst I4 Fz;have k1:=fk 3 (uP kd ((s.drop p).take (Ac-p)) h9 Ba) rfl;rw [Cv,Cw];exact aA.fi (gI bw [0,1,4]) (rT 5++[bF,Cl.k 4 (gI c7 [0,1,2]),bF,bF,bT,k1.o]++rT 5++[bF,bF]) (gc Dd (gc Cs (gc (bD Bt) (gc B1 (gc (aJ Be) (B5 (cP Bt) (gc k1 (gc (gO h8) (gc h7 (gc (bA h6) (gc h5 (gc (bA h4) (gc Cl.code (gc (bA h2) (Au (bJ h0) (gc h1 (Au (bJ h0) (g0 h0))))))))))))))))))
theorem aNw{R':List (List Cel)}(h8:(n:Int)≤(my+1))(h9:within kd 0 4=true)(Ba:((s.drop p).take (Ac-p)).length≤90000)(Bt:((rwM kd ((s.drop p).take (Ac-p))).2.2)≠0)(Be:[(PV.sl (((rwM kd ((s.drop p).take (Ac-p))).1).length) ((((rwM kd ((s.drop p).take (Ac-p))).1).map cE).flatten))].length=1*1∧R.length+1≤1000000)(Cv:R'.length=(R.length+1))(Cw:(R'.map rwE).flatten=(((R.map rwE).flatten)++[(PV.sl (((rwM kd ((s.drop p).take (Ac-p))).1).length) ((((rwM kd ((s.drop p).take (Ac-p))).1).map cE).flatten))]))(A3:Bv=(n:Int))(Aq:Bn=((rwM kd ((s.drop p).take (Ac-p))).2.1))(Ar:Bl=((rwM kd ((s.drop p).take (Ac-p))).2.2)):aA Tp 0 iS (dQ s p my n kd R.length ((R.map rwE).flatten) l1 f1 e1) .ret (dQ s p my n kd R'.length ((R'.map rwE).flatten) Bv Bn Bl):=by
 subst A3 Aq Ar;have k1:=fk 3 (uP kd ((s.drop p).take (Ac-p)) h9 Ba) rfl;rw [Cv,Cw];exact aA.fi (gI bw [0,1,4]) (rT 5++[bF,Cl.k 4 (gI c7 [0,1,2]),bF,bF,bT,k1.o]++rF 5++[bT]) (gc (cL Bt) (gc Be (B5 (bA Bt) (gc k1 (gc (gO h8) (gc h7 (gc (bA h6) (gc h5 (gc (bA h4) (gc Cl.code (gc (bA h2) (Au (bJ h0) (gc h1 (Au (bJ h0) (g0 h0)))))))))))))))
theorem aNx(h8:(my+1)<(n:Int))(h9:0≤(0:Int)∧(0:Int)≤(p:Int)∧(p:Int)≤(s.length:Int))(Ba:((s.drop p).take (Ac-p)).length≤90000)(Bt:(s.take p).length≤65536)(Be:((lsM (spB ((s.drop p).take (Ac-p))) (bN (s.take p))).2)≠0)(A3:Bv=(n:Int))(Aq:Bn=((lsM (spB ((s.drop p).take (Ac-p))) (bN (s.take p))).1))(Ar:Bl=((lsM (spB ((s.drop p).take (Ac-p))) (bN (s.take p))).2)):aA Tp 0 iS (dQ s p my n kd R.length ((R.map rwE).flatten) l1 f1 e1) .ret (dQ s p my n kd R.length ((R.map rwE).flatten) Bv Bn Bl):=by
 subst A3 Aq Ar;have k1:=fk 3 (bGy ((s.drop p).take (Ac-p)) (s.take p) Ba Bt) rfl;exact aA.fi (gI bw [0,1,2]) (rT 5++[bF,Cl.k 4 (gI c7 [0,1,2]),bF,bF,bF,k1.o,bT]) (gc (cL Be) (gc k1 (gc h9 (gc (eQ h8) (gc h7 (gc (bA h6) (gc h5 (gc (bA h4) (gc Cl.code (gc (bA h2) (Au (bJ h0) (gc h1 (Au (bJ h0) (g0 h0))))))))))))))
theorem aNy(h8:(my+1)<(n:Int))(h9:0≤(0:Int)∧(0:Int)≤(p:Int)∧(p:Int)≤(s.length:Int))(Ba:((s.drop p).take (Ac-p)).length≤90000)(Bt:(s.take p).length≤65536)(Be:((lsM (spB ((s.drop p).take (Ac-p))) (bN (s.take p))).2)=0)(B1:inR (((Ac+1):Nat):Int))(Cs:cq n)(I4:p'=(Ac+1))(Fz:n'=(n+1)):aA Tp 0 iS (dQ s p my n kd R.length ((R.map rwE).flatten) l1 f1 e1) .normal (dQ s p' my n' kd R.length ((R.map rwE).flatten) l1 f1 e1):=by
 subst I4 Fz;have k1:=fk 3 (bGy ((s.drop p).take (Ac-p)) (s.take p) Ba Bt) rfl;exact aA.fi (gI bw [0,1,2]) (rT 5++[bF,Cl.k 4 (gI c7 [0,1,2]),bF,bF,bF,k1.o,bF]) (gc Cs (gc B1 (gc (bD Be) (gc k1 (gc h9 (gc (eQ h8) (gc h7 (gc (bA h6) (gc h5 (gc (bA h4) (gc Cl.code (gc (bA h2) (Au (bJ h0) (gc h1 (Au (bJ h0) (g0 h0))))))))))))))))
end
theorem aNz{s:List UInt8}{R:List (List Cel)}(h0:(n:Int)≤1)(Ak:aE Tp 0 lR (dL s p my n kd R l1 f1 e1 p) (.exit 2) (dL s p my n kd R l1 f1 e1 Ac))(h2:(Ac:Int)=(s.length:Int))(A3:Bv=(n:Int))(Aq:Bn=(1:Int))(Ar:Bl=(11:Int)):aA Tp 0 iS (dQ s p my n kd R.length ((R.map rwE).flatten) l1 f1 e1) .ret (dQ s p my n kd R.length ((R.map rwE).flatten) Bv Bn Bl):=by
 subst A3 Aq Ar;exact aA.fi (gI bw [0,1,2]) (rF 5++[Ak.k 5 (gI c7 [0,1,2]),bT]) (gc (cP h2) (gc Ak.code (B5 (aJ h0) gn)))
section
variable{s:List UInt8}{R:List (List Cel)}(h0:(n:Int)≤1)(Ak:aE Tp 0 lR (dL s p my n kd R l1 f1 e1 p) (.exit 2) (dL s p my n kd R l1 f1 e1 Ac))(h2:(Ac:Int)≠(s.length:Int))(h3:0≤(p:Int)∧(p:Int)≤(Ac:Int)∧(Ac:Int)≤(s.length:Int))(h4:(n:Int)=1)(h5:((s.drop p).take (Ac-p)).length≤90000)
include h0 Ak h2 h3 h4 h5
theorem aOa(h6:((hdR (spB ((s.drop p).take (Ac-p)))).2.2.2)≠0)(Eb:Gl=((hdR (spB ((s.drop p).take (Ac-p)))).2.1))(Ed:Gk=((hdR (spB ((s.drop p).take (Ac-p)))).1))(A3:Bv=(n:Int))(Aq:Bn=((hdR (spB ((s.drop p).take (Ac-p)))).2.2.1))(Ar:Bl=((hdR (spB ((s.drop p).take (Ac-p)))).2.2.2)):aA Tp 0 iS (dQ s p my n kd R.length ((R.map rwE).flatten) l1 f1 e1) .ret (dQ s p Gl n Gk R.length ((R.map rwE).flatten) Bv Bn Bl):=by
 subst Eb Ed A3 Aq Ar;have k1:=fk 3 (bGx ((s.drop p).take (Ac-p)) h5) rfl;exact aA.fi (gI bw [0,1,2]) (rF 5++[Ak.k 5 (gI c7 [0,1,2]),bF,bT,k1.o,bT]) (gc (cL h6) (gc k1 (gc (cP h4) (gc h3 (gc (bA h2) (gc Ak.code (B5 (aJ h0) gn)))))))
theorem aOb(h6:((hdR (spB ((s.drop p).take (Ac-p)))).2.2.2)=0)(h7:inR (((Ac+1):Nat):Int))(h8:cq n)(I4:p'=(Ac+1))(Eb:Gl=((hdR (spB ((s.drop p).take (Ac-p)))).2.1))(Fz:n'=(n+1))(Ed:Gk=((hdR (spB ((s.drop p).take (Ac-p)))).1)):aA Tp 0 iS (dQ s p my n kd R.length ((R.map rwE).flatten) l1 f1 e1) .normal (dQ s p' Gl n' Gk R.length ((R.map rwE).flatten) l1 f1 e1):=by
 subst I4 Eb Fz Ed;have k1:=fk 3 (bGx ((s.drop p).take (Ac-p)) h5) rfl;exact aA.fi (gI bw [0,1,2]) (rF 5++[Ak.k 5 (gI c7 [0,1,2]),bF,bT,k1.o,bF]) (gc h8 (gc h7 (gc (bD h6) (gc k1 (gc (cP h4) (gc h3 (gc (bA h2) (gc Ak.code (B5 (aJ h0) gn)))))))))
end
section
variable{s:List UInt8}{A4:UInt8}(h0:(q:Int)<(s.length:Int))(h1:s[q]? = some A4)
include h0 h1
theorem aWr{R:List (List Cel)}{q':Nat}(h2:(A4.toNat:Int)≠10)(h3:cq q)(Er:q'=(q+1)):aA Tp 0 lR (dL s p my n kd R l1 f1 e1 q) .normal (dL s p my n kd R l1 f1 e1 q'):=by
 subst Er;exact aA.fi (gI c7 [0,1,2]) [bT,bT,bT,.x (.v (.int .u8 (A4.toNat:Int))),bT,bT,bT] (gc h3 (gc (cL h2) (Au (bJ h0) (gt ((s[q]?).map (fun b:UInt8=>PV.v (.int .u8 (b.toNat:Int)))=some (.v (.int .u8 (A4.toNat:Int)))) (bP h1) (gt (0≤(q:Int)) (Bf _) (Au (bJ h0) (g0 h0)))))))
theorem aWs{R:List (List Cel)}(h2:(A4.toNat:Int)=10):aA Tp 0 lR (dL s p my n kd R l1 f1 e1 q) (.exit 2) (dL s p my n kd R l1 f1 e1 q):=aA.fi (gI c7 [0,1,2]) [bT,bT,bT,.x (.v (.int .u8 (A4.toNat:Int))),bT,bT,bF] (gc (bD h2) (Au (bJ h0) (gt ((s[q]?).map (fun b:UInt8=>PV.v (.int .u8 (b.toNat:Int)))=some (.v (.int .u8 (A4.toNat:Int)))) (bP h1) (gt (0≤(q:Int)) (Bf _) (Au (bJ h0) (g0 h0))))))
end
theorem aWt{s:List UInt8}{R:List (List Cel)}(h0:(s.length:Int)≤(q:Int)):aA Tp 0 lR (dL s p my n kd R l1 f1 e1 q) (.exit 2) (dL s p my n kd R l1 f1 e1 q):=aA.fi (gI c7 [0,1,2]) (rF 5) (B5 (aJ h0) gn)
def aAk(s:List UInt8)(p:Nat)(my:Int)(n:Nat)(kd:Int)(Rn:Nat)(Rc:List PV)(l1 f1 e1:Int):St:=⟨fr 130 [(0,(.p (aC s))),(2,(.ptr 0 0)),(3,(pI l1)),(4,(pI f1)),(5,(pI e1)),(6,(.ptr 1 0)),(7,(pI (p:Int))),(8,(pI my)),(9,(pI (n:Int)))],[some (.box 32 [(pI 0),(.p bM)]),some (.box 32 [(pI kd),(.own 2)]),some (.row 173 Rn Rc)]⟩
theorem bTz{s:List UInt8}{R'4:List (List Cel)}(h0:(s.length:Int)≤65536)(Ak:aE Tp 0 iS (aAk s 0 0 1 0 0 [] 0 0 0) .ret (bX (aAk s Dv Gw Gm H2 R'4.length ((R'4.map rwE).flatten) l1'5 f1'6 e1'7) 0 (some (.box 32 [(pI H2),(.own 2)])))):FMM Tp 16 [(.p (aC s))] [] (.tup [(.p (.agg [(aB H2),(.sl R'4.length ((R'4.map rwE).flatten))])),(pI l1'5),(pI f1'6),(pI e1'7)]) []:=FMM.fi 0 ⟨[],[],[2],[]⟩ func16 [bF,Ak.k 7 (gN bw [0,1,2] [(101001,173)])] (gc Ak.code (gc (aJ h0) gn))
theorem aWu{s:List UInt8}{R:List (List Cel)}(h0:(1:Int)<(n:Int))(h1:inR (my+3))(h2:(n:Int)=(my+3))(h3:(s.length:Int)≤(p:Int))(A3:Bv=(0:Int))(Aq:Bn=(0:Int))(Ar:Bl=(0:Int)):aA Tp 0 iS (aAk s p my n kd R.length ((R.map rwE).flatten) l1 f1 e1) .ret (bX (aAk s p my n kd R.length ((R.map rwE).flatten) Bv Bn Bl) 0 (some (.box 32 [(pI kd),(.own 2)]))):=by
 subst A3 Aq Ar;exact aA.fi (gI bw [0,1,2]) (rT 6++[bF]) (gc (aJ h3) (gc (cP h2) (Au (bJ h0) (gc h1 (Au (bJ h0) (g0 h0))))))
theorem bUa(fs:List (List UInt8)):within (Di (hdM fs).1) 0 4=true:=by
 have hw:within (Di (dN (fld fs 1))) 0 4=true:=by
  rcases uQ (fld fs 1) with ⟨w,g1,g2,_⟩ | ⟨g2,_⟩
  ·rw [g2];apply dF.2;unfold Di;split <;> omega
  ·rw [g2];decide
 unfold hdM
 repeat' split
 all_goals first | exact hw | decide
theorem bUb(s:List UInt8):0≤(paM s).1∧(paM s).1≤360000:=by
 unfold paM
 split
 ·rename_i h
  obtain ⟨_,_,h3,h4,_⟩:=h
  split
  ·exact ⟨by decide,by decide⟩
  ·rename_i h5
   have b1:=rJ (Lib.cut s [58]).1 360000 (by decide)
   have b2:=vW (.inr rfl) h3;have b3:=vW (.inl rfl) h4;dsimp only;omega
 ·exact ⟨by decide,by decide⟩
theorem bMq{t:Int}(u:List UInt8)(ht:t=0∨t=1∨t=2∨t=3):0≤(rdM t u).1.1∧(rdM t u).1.1≤1000000:=by
 rcases ht with rfl | rfl | rfl | rfl
 ·have:=rJ u 999999 (by decide)
  show 0≤(bK u 999999).1∧(bK u 999999).1≤1000000;omega
 ·have:=bUb u
  show 0≤(paM u).1∧(paM u).1≤1000000;omega
 ·by_cases q:kQ u=true
  ·have e:rdM 2 u=((0,u),0):=by simp [rdM,q]
   rw [e];exact ⟨aCb 0,show (0:Int)≤1000000 by decide⟩
  ·have e:rdM 2 u=((0,[]),11):=by simp [rdM,q]
   rw [e];exact ⟨aCb 0,show (0:Int)≤1000000 by decide⟩
 ·by_cases q:kR u=true
  ·have e:rdM 3 u=((0,u),0):=by simp [rdM,q]
   rw [e];exact ⟨aCb 0,show (0:Int)≤1000000 by decide⟩
  ·have e:rdM 3 u=((0,[]),11):=by simp [rdM,q]
   rw [e];exact ⟨aCb 0,show (0:Int)≤1000000 by decide⟩
theorem aGl:∀ (ts:List Int) (us:List (List UInt8)) (i:Nat) (cs:List Cel),(∀ t∈ts,t=0∨t=1∨t=2∨t=3)→rdL ts us i = .inl cs→kD cs
 | [],us,i,cs,ht,h=>by cases h;intro c hc;simp at hc
 | t::ts,[],i,cs,ht,h=>by cases h
 | t::ts,u::us,i,cs,ht,h=>by
  unfold rdL at h
  split at h
  ·cases h
  ·split at h
   ·rename_i Bs h2
    cases h;intro c hc
    rcases nK.1 hc with rfl | hc
    ·exact bMq u (ht t (lV ..))
    ·exact aGl ts us (i+1) Bs (fun t h=>ht t (Df _ h)) h2 c hc
   ·cases h
theorem aRy(k:Int):∀ t∈aK k,t=0∨t=1∨t=2∨t=3:=fun t h=>by
 obtain ⟨j,hj⟩:=List.mem_iff_getElem?.1 h;exact iX hj
structure PrD (a:PS):Prop where
 d1:a.dn=true→(a.nr:Int)=a.my+2
 d2:a.dn=false→0<a.nr→(a.nr:Int)≤a.my+1
 kd:within a.kd 0 4=true
 num:∀ r∈a.R,kD r
theorem cEn:PrD prA:=⟨fun h=>(by cases h),fun _ h=>absurd h (by decide),rfl,fun r h=>(by cases h)⟩
theorem aJt{R:List (List Cel)}{cs:List Cel}(h:∀ r∈R,kD r)(hc:kD cs):∀ r∈R++[cs],kD r:=fun r hr=>by
 rcases aAg.1 hr with hr | hr
 ·exact h r hr
 ·rw [List.mem_singleton] at hr;subst hr;exact hc
theorem bGk{s:List UInt8}{a a2:PS}{x:List UInt8 × Bool}(h:PrD a)(hf:prF s a x = .ok a2):PrD a2:=by
 obtain ⟨h1,h2,h3,h4⟩:=h;unfold prF at hf
 split at hf
 ·cases hf
 ·rename_i hc
  have hd:a.dn=false:=by
   cases e:a.dn with
   | false=>rfl
   | true=>exact absurd (.inl e) hc
  have nd:∀ {p:Prop},a.dn=true→p:=fun q=>by rw [hd] at q;cases q
  split at hf
  ·rename_i h0
   split at hf
   ·cases hf
   ·cases hf
    have hb:=bIy (aW x.1 [32]);refine ⟨fun q=>nd q,fun _ _ => ?_,bUa _,h4⟩
    show ((a.nr+1:Nat):Int)≤(hdM (aW x.1 [32])).2.1+1;omega
  ·rename_i h0
   split at hf
   ·rename_i hle
    split at hf
    ·cases hf
    ·rename_i cs hcs
     have hn:=aGl _ _ _ _ (aRy _) hcs
     split at hf
     ·cases hf
     ·split at hf
      ·cases hf
       exact ⟨fun q=>nd q,fun _ _=>hle,h3,aJt h4 hn⟩
      ·split at hf
       ·cases hf
        exact ⟨fun q=>nd q,fun _ _=>hle,h3,aJt h4 hn⟩
       ·cases hf
   ·rename_i hle
    split at hf
    ·cases hf
    ·cases hf
     have:=h2 hd (by omega)
     refine ⟨fun _ => ?_,fun q=>(by cases q),h3,h4⟩
     show ((a.nr+1:Nat):Int)=a.my+2;omega
theorem bUc{c:UInt8}(h:c≠10):(c.toNat:Int)≠10:=fun e=>h (UInt8.toNat_inj.1 (by have:c.toNat=10:=(by omega);simpa using this))
theorem bGl{s:List UInt8}(hs:s.length≤65536){p:Nat}{my:Int}{n:Nat}{kd:Int}{R:List (List Cel)}{l1 f1 e1:Int}{N:Nat}(hN:N≤s.length)(h1:∀ j c,p≤j→j<N→s[j]? = some c→c≠10)(h2:N=s.length∨s[N]? = some 10) :
  ∀ (m q:Nat),N-q=m→p≤q→q≤N→aE Tp 0 lR (dL s p my n kd R l1 f1 e1 q) (.exit 2) (dL s p my n kd R l1 f1 e1 N)
 | 0,q,hm,hp,hq=>by
  have:q=N:=by omega
  subst this
  rcases h2 with e | e
  ·exact .exit (aWt (by omega)) (by simp)
  ·have:=(Cq.1 e).1
   exact .exit (aWs (by omega) e rfl) (by simp)
 | m+1,q,hm,hp,hq=>by
  obtain ⟨c,hc⟩:∃ c,s[q]? = some c:=⟨s[q]'(by omega),Ch (by omega)⟩
  exact .step (aWr (by omega) hc (bUc (h1 q c hp (by omega) hc)) (aL (by omega)) rfl) (bGl hs hN h1 h2 m (q+1) (by omega) (by omega) (by omega))
def rpA(s:List UInt8)(a:PS):St:=dQ s a.bf a.my (a.nr+1) a.kd a.R.length ((a.R.map rwE).flatten) 0 0 0
def RpR(s:List UInt8)(a:PS)(l f e:Int):Prop:=∃ p my n kd R',aA Tp 0 iS (rpA s a) .ret (dQ s p my n kd R'.length ((List.map rwE R').flatten) l f e)
theorem rI(R:List (List Cel))(cs:List Cel):((R++[cs]).map rwE).flatten=(R.map rwE).flatten++[PV.sl cs.length ((cs.map cE).flatten)]:=by simp [rwE,aP]
theorem aJu{s:List UInt8}(hs:s.length≤65536){a:PS}(hmy:0≤a.my∧a.my≤200)(hD:PrD a)(hb:a.bf≤s.length)(hn:a.nr≤70000)(hd:a.dn=false)(h1:∀ j c,a.bf≤j→j<s.length→s[j]? = some c→c≠10):RpR s a (((a.nr+1:Nat)):Int) 1 11:=by
 have Q:=bGl hs (p:=a.bf) (my:=a.my) (n:=a.nr+1) (kd:=a.kd) (R:=a.R) (l1:=0) (f1:=0) (e1:=0) (N:=s.length) (Bo _) h1 (.inl rfl) _ a.bf rfl (Bo _) hb
 by_cases h0:a.nr=0
 ·exact ⟨_,_,_,_,_,aNz (by omega) Q rfl rfl rfl rfl⟩
 ·have:=hD.d2 hd (by omega)
  exact ⟨_,_,_,_,_,aWn (by omega) (by show _∧_;omega) (by omega) Q rfl rfl rfl rfl⟩
theorem aWv{s:List UInt8}(hs:s.length≤65536){pre:List (List UInt8 × Bool)}{x:List UInt8 × Bool}{a:PS}(hp:pre++[x] <+: cG s)(hO:aKo pre a)(hD:PrD a) :
  (∀ a2,prF s a x = .ok a2→aA Tp 0 iS (rpA s a) .normal (rpA s a2))∧(∀ e,prF s a x = .error e→RpR s a e.2.1 e.2.2.1 e.2.2.2):=by
 have hfar:=wG pre x s hp hO.ended;obtain ⟨⟨r,hr,Gf,Dj⟩,Ml⟩:=aKy pre x s hp hO.ended;rw [← hO.bf] at hfar hr
 have hmy:=hO.my;have hpl:(pre++[x]).length≤(cG s).length:=hp.length_le;have hll:=jU _ s (Bo _);rw [gR,List.length_singleton,← hO.nr] at hpl
 have hRn:=hO.Rn;have hlen:=congrArg List.length hr;rw [pD,gR] at hlen
 have hat:∀ j,s[a.bf+j]? = (x.1++r)[j]? := fun j=>by rw [← hr,List.getElem?_drop]
 have Ba:∀ j c,a.bf≤j→j<a.bf+x.1.length→s[j]? = some c→c≠10:=fun j c q1 q2 q3=>by
  have e:j=a.bf+(j-a.bf):=by omega
  rw [e,hat,aNq (by omega)] at q3
  exact Ml c (Ci q3)
 have hX:(s.drop a.bf).take (a.bf+x.1.length-a.bf)=x.1:=by
  rw [hr,show a.bf+x.1.length-a.bf=x.1.length by omega,List.take_left]
 unfold prF;simp only [aGy]
 by_cases hd:a.dn=true
 ·rw [if_pos (.inl hd)]
  refine ⟨fun _ h=>(by cases h),fun _ h => ?_⟩
  cases h;have:=hD.d1 hd;have:a.bf<s.length:=by
   cases e:x.2 with
   | true=>obtain ⟨r',h⟩:=Gf e;rw [h] at hlen;simp at hlen;omega
   | false=>have:=List.length_pos_iff.2 (Dj e).2;omega
  exact ⟨_,_,_,_,_,aWm (by omega) (by show _∧_;omega) (by omega) (by omega) rfl rfl rfl⟩
 ·have Ew:a.dn=false:=by simpa using hd
  by_cases Ey:x.2=false
  ·rw [if_pos (.inr Ey)]
   refine ⟨fun _ h=>(by cases h),fun _ h => ?_⟩
   cases h;obtain ⟨Mm,_⟩:=Dj Ey;rw [Mm] at hlen
   simp only [List.length_nil,Nat.add_zero] at hlen
   exact aJu hs hmy hD (by omega) (by omega) Ew (fun j c q1 q2 q3=>Ba j c q1 (by omega) q3)
  ·obtain ⟨r',Mm⟩:=Gf (by simpa using Ey)
   subst Mm;simp only [fQ] at hlen
   have hN:s[a.bf+x.1.length]? = some 10:=by rw [hat,aJp (Bo _),aWa];rfl
   have Q:=bGl hs (p:=a.bf) (my:=a.my) (n:=a.nr+1) (kd:=a.kd) (R:=a.R) (l1:=0) (f1:=0) (e1:=0) (N:=a.bf+x.1.length) (by omega) Ba (.inr hN) _ a.bf rfl (Bo _) (by omega)
   rw [if_neg (by simp [Ew,Ey])]
   by_cases h0:a.nr=0
   ·rw [if_pos h0]
    by_cases hz:(hdM (spB x.1)).2.2.2=0
    ·have hR:hdR (spB x.1)=(Di (hdM (spB x.1)).1,(hdM (spB x.1)).2.1,0,0):=if_pos hz
     rw [if_neg (by simp [hz])]
     refine ⟨fun _ h => ?_,fun _ h=>(by cases h)⟩
     cases h;exact aOb (by omega) Q (by omega) (by omega) (by omega) (by rw [hX];omega) (by rw [hX,hR]) (aL (by omega)) (aL (by omega)) (by show a.bf+(x.1.length+1)=_;omega) (by rw [hX,hR]) rfl (by rw [hX,hR])
    ·have hR:hdR (spB x.1)=(0,0,(hdM (spB x.1)).2.2.1,(hdM (spB x.1)).2.2.2):=if_neg hz
     rw [if_pos hz];refine ⟨fun _ h=>(by cases h),fun _ h => ?_⟩
     cases h;exact ⟨_,_,_,_,a.R,aOa (by omega) Q (by omega) (by omega) (by omega) (by rw [hX];omega) (by rw [hX,hR];exact hz) rfl rfl rfl (by rw [hX,hR]) (by rw [hX,hR])⟩
   ·rw [if_neg h0]
    have Ev:=hD.d2 Ew (by omega)
    have i1:inR (a.my+3):=by unfold inR;omega
    have i2:inR (a.my+1):=by unfold inR;omega
    by_cases hm:((a.nr+1:Nat):Int)≤a.my+1
    ·rw [if_pos hm]
     have bad:∀ (f e:Int),rwM a.kd x.1=([],f,e)→e≠0→RpR s a (((a.nr+1:Nat)):Int) f e:=fun f e hw he =>
      ⟨_,_,_,_,a.R++[[]],aNw (by omega) i1 (by omega) Q (by omega) (by omega) (by omega) i2 hm hD.kd (by rw [hX];omega) (by rw [hX,hw];exact he) ⟨rfl,by omega⟩ (by simp) (by rw [hX,hw];exact rI _ _) rfl (by rw [hX,hw]) (by rw [hX,hw])⟩
     cases hq:rdL (aK a.kd) (spB x.1) 0 with
     | inr p =>
      refine ⟨fun _ h=>(by cases h),fun _ h => ?_⟩
      cases h;exact bad p.1 p.2 (by unfold rwM;rw [hq]) (aGu _ _ _ _ hq)
     | inl cs =>
      dsimp only
      by_cases hl:(spB x.1).length=(aK a.kd).length
      ·rw [if_neg (by simp [hl])]
       have hw:rwM a.kd x.1=(cs,0,0):=by unfold rwM;rw [hq];dsimp only;rw [if_pos hl]
       have hcl:=rO _ _ _ _ hq;have hkl:=rK a.kd;have hcn:=aGl _ _ _ _ (aRy _) hq;cases hg:a.R.getLast? with
       | none =>
        have hR:a.R=[]:=List.getLast?_eq_none_iff.1 hg;refine ⟨fun _ h => ?_,fun _ h=>(by cases h)⟩
        cases h;exact aNv (R':=a.R++[cs]) (by omega) i1 (by omega) Q (by omega) (by omega) (by omega) i2 hm hD.kd (by rw [hX];omega) (by rw [hX,hw]) (by rw [hR];simp) ⟨rfl,by omega⟩ (aL (by omega)) (aL (by omega)) (by show a.bf+(x.1.length+1)=_;omega) rfl (by simp) (by rw [hX,hw];exact rI _ _)
       | some c =>
        dsimp only;have hcm:c∈a.R:=List.mem_of_getLast? hg;have hRp:0<a.R.length:=List.length_pos_of_mem hcm;have Iz:a.R[((a.R.length:Int)-1).toNat]? = some c:=by
         rw [List.getLast?_eq_getElem?] at hg
         rw [show ((a.R.length:Int)-1).toNat=a.R.length-1 by omega]
         exact hg
        have k1:aN a.kd≤(c.length:Int):=by rw [hO.R c hcm];exact hkl
        have k2:aN a.kd≤(((rwM a.kd ((s.drop a.bf).take (a.bf+x.1.length-a.bf))).1).length:Int):=by rw [hX,hw];dsimp only;rw [hcl];exact hkl
        have n2:kD ((rwM a.kd ((s.drop a.bf).take (a.bf+x.1.length-a.bf))).1):=by rw [hX,hw];exact hcn
        obtain ⟨o1,o2⟩:=bMu a.kd c cs;have j1:inR ((a.R.length:Int)-1):=by unfold inR;omega
        by_cases hc:bV a.kd c cs = -1
        ·rw [if_pos hc]
         refine ⟨fun _ h => ?_,fun _ h=>(by cases h)⟩
         cases h;exact aWq (R':=a.R++[cs]) (by omega) i1 (by omega) Q (by omega) (by omega) (by omega) i2 hm hD.kd (by rw [hX];omega) (by rw [hX,hw]) (by omega) j1 (by omega) Iz k1 k2 (hD.num c hcm) n2 (by rw [hX,hw];dsimp only;omega) (by rw [hX,hw];dsimp only;omega) ⟨rfl,by omega⟩ (aL (by omega)) (aL (by omega)) (by show a.bf+(x.1.length+1)=_;omega) rfl (by simp) (by rw [hX,hw];exact rI _ _)
        ·rw [if_neg hc]
         refine ⟨fun _ h=>(by cases h),fun _ h => ?_⟩
         cases h
         by_cases Ke:bV a.kd c cs=0
         ·rw [if_pos Ke]
          exact ⟨_,_,_,_,a.R++[cs],aWo (by omega) i1 (by omega) Q (by omega) (by omega) (by omega) i2 hm hD.kd (by rw [hX];omega) (by rw [hX,hw]) (by omega) j1 (by omega) Iz k1 k2 (hD.num c hcm) n2 (by rw [hX,hw];dsimp only;omega) (by rw [hX,hw];dsimp only;omega) ⟨rfl,by omega⟩ (by simp) (by rw [hX,hw];exact rI _ _) rfl rfl rfl⟩
         ·rw [if_neg Ke]
          have J8:bV a.kd c cs=1:=by
           rcases aAx (aM a.kd c 0) (aM a.kd c 1) (aM a.kd c 2) (aM a.kd cs 0) (aM a.kd cs 1) (aM a.kd cs 2) with q | q | q
           ·exact absurd q hc
           ·exact absurd q Ke
           ·exact q
          exact ⟨_,_,_,_,a.R++[cs],aWp (by omega) i1 (by omega) Q (by omega) (by omega) (by omega) i2 hm hD.kd (by rw [hX];omega) (by rw [hX,hw]) (by omega) j1 (by omega) Iz k1 k2 (hD.num c hcm) n2 (by rw [hX,hw];dsimp only;omega) (by rw [hX,hw];dsimp only;omega) ⟨rfl,by omega⟩ (by simp) (by rw [hX,hw];exact rI _ _) rfl rfl rfl⟩
      ·rw [if_pos hl]
       refine ⟨fun _ h=>(by cases h),fun _ h => ?_⟩
       cases h;exact bad _ 11 (by unfold rwM;rw [hq];dsimp only;rw [if_neg hl]) (by decide)
    ·rw [if_neg hm]
     have htk:(s.take a.bf).length≤65536:=by rw [uM];omega
     by_cases hz:(lsM (spB x.1) (bN (s.take a.bf))).2=0
     ·rw [if_neg (by simp [hz])]
      refine ⟨fun _ h => ?_,fun _ h=>(by cases h)⟩
      cases h;exact aNy (by omega) i1 (by omega) Q (by omega) (by omega) (by omega) i2 (by omega) (by omega) (by rw [hX];omega) htk (by rw [hX];exact hz) (aL (by omega)) (aL (by omega)) (by show a.bf+(x.1.length+1)=_;omega) rfl
     ·rw [if_pos hz]
      refine ⟨fun _ h=>(by cases h),fun _ h => ?_⟩
      cases h;exact ⟨_,_,_,_,a.R,aNx (by omega) i1 (by omega) Q (by omega) (by omega) (by omega) i2 (by omega) (by omega) (by rw [hX];omega) htk (by rw [hX];exact hz) rfl (by rw [hX]) (by rw [hX])⟩
def RlR(s:List UInt8)(a:PS)(l f e:Int):Prop:=∃ p my n kd R',aE Tp 0 iS (rpA s a) .ret (dQ s p my n kd R'.length ((List.map rwE R').flatten) l f e)
theorem aJv{s:List UInt8}(hs:s.length≤65536):∀ (L pre:List (List UInt8 × Bool)) (a:PS),pre++L=cG s→aKo pre a→PrD a →
  (∀ e,itB (prF s) a L = .error e→RlR s a e.2.1 e.2.2.1 e.2.2.2) ∧
  (∀ b,itB (prF s) a L = .ok b→(b.dn=true→∃ p my n,aE Tp 0 iS (rpA s a) .ret (bX (aAk s p my n b.kd b.R.length ((b.R.map rwE).flatten) 0 0 0) 0 (some (.box 32 [.p (aB b.kd),.own 2]))))∧(b.dn=false→RlR s a (((b.nr+1:Nat)):Int) 1 11))
 | [],pre,a,hL,hO,hD=>by
  rw [List.append_nil] at hL
  have hbf:a.bf=s.length:=by rw [hO.bf,hL];exact aEr _ s (Bo _) (by rw [← hL];exact hO.ended)
  have hnr:a.nr≤65536:=by
   have:=jU _ s (Bo _);have h1:=hO.nr;rw [hL] at h1
   omega
  have hmy:=hO.my;refine ⟨fun e h=>(by cases h),fun b h => ?_⟩
  cases h;refine ⟨fun hd => ?_,fun hd => ?_⟩
  ·have:=hD.d1 hd
   exact ⟨_,_,_,.exit (aWu (p:=a.bf) (my:=a.my) (n:=a.nr+1) (l1:=0) (f1:=0) (e1:=0) (by omega) (by show _∧_;omega) (by omega) (by omega) rfl rfl rfl) (by simp)⟩
  ·obtain ⟨p,my,n,kd,R',h⟩:=aJu hs hmy hD (by omega) (by omega) hd (fun j c q1 q2=>by omega)
   exact ⟨p,my,n,kd,R',.exit h (by simp)⟩
 | x::L,pre,a,hL,hO,hD=>by
  have hp:pre++[x] <+: cG s:=⟨L,by rw [← hL];simp⟩
  obtain ⟨q1,q2⟩:=aWv hs hp hO hD;cases hf:prF s a x with
  | error e =>
   have e0:itB (prF s) a (x::L) = .error e:=cBh _ hf;rw [e0];refine ⟨fun e' h => ?_,fun b h=>(by cases h)⟩
   cases h;obtain ⟨p,my,n,kd,R',h⟩:=q2 e hf;exact ⟨p,my,n,kd,R',.exit h (by simp)⟩
  | ok a2 =>
   have e0:itB (prF s) a (x::L)=itB (prF s) a2 L:=cBg _ hf;rw [e0];have st:=q1 a2 hf;obtain ⟨r1,r2⟩:=aJv hs L (pre++[x]) a2 (by rw [← hL];simp) (aEj hO hf) (bGk hD hf)
   refine ⟨fun e h => ?_,fun b h=>⟨fun hd => ?_,fun hd => ?_⟩⟩
   ·obtain ⟨p,my,n,kd,R',h⟩:=r1 e h
    exact ⟨p,my,n,kd,R',.step st h⟩
   ·obtain ⟨p,my,n,h⟩:=(r2 b h).1 hd
    exact ⟨p,my,n,.step st h⟩
   ·obtain ⟨p,my,n,kd,R',h⟩:=(r2 b h).2 hd
    exact ⟨p,my,n,kd,R',.step st h⟩
theorem bUd(s:List UInt8){base:Nat}:FV Tp 16 [.p (aC s)] base (.tup [.p (.agg [aB (prM s).1,bW (prM s).2.1]),.p (aB (prM s).2.2.1),.p (aB (prM s).2.2.2.1),.p (aB (prM s).2.2.2.2)]) []:=by
 refine FV.frz ?_ (by rfl)
 unfold prM
 by_cases hs:65536<s.length
 ·rw [if_pos hs]
  exact FMM.wk (bTy (by omega)) rfl
 ·rw [if_neg hs]
  obtain ⟨q1,q2⟩:=aJv (s:=s) (by omega) (cG s) [] prA rfl aGv cEn
  cases hi:itB (prF s) prA (cG s) with
  | error e =>
   obtain ⟨p,my,n,kd,R',h⟩:=q1 e hi;exact FMM.wk (bGj (by omega) h) rfl
  | ok a =>
   dsimp only
   by_cases hd:a.dn=true
   ·rw [if_pos hd]
    obtain ⟨p,my,n,h⟩:=(q2 a hi).1 hd;have:=bTz (s:=s) (by omega) h
    rw [eU] at this
    exact this
   ·rw [if_neg hd]
    obtain ⟨p,my,n,kd,R',h⟩:=(q2 a hi).2 (by simpa using hd)
    exact FMM.wk (bGj (by omega) h) rfl
end
section
variable {j k A5 Bj:Int}{i i' Av base:Nat}

noncomputable abbrev aDo:Code:=sub (cd Tryz.f148) [1,1,0,1,0,0]
noncomputable abbrev aDp:Code:=sub (cd Tryz.f99) [1,1,0,1,0,0]
noncomputable abbrev aRw:Code:=sub (cd Tryz.f116) [1,1,0,1,0,0]
noncomputable abbrev aRx:Code:=sub (cd Tryz.f22) [1,1,0,1,0,0]
def jM(r t:List Cel)(i:Nat):St:=⟨fr 26 [(0,(.p (.sl r.length ((r.map cE).flatten)))),(1,(.p (.sl t.length ((t.map cE).flatten)))),(12,(pI (r.length:Int))),(13,(pI (i:Int)))],[]⟩
theorem bTi{r t:List Cel}(h0:(r.length:Int)≠(t.length:Int)):FV Tp 148 [(.p (.sl r.length ((r.map cE).flatten))),(.p (.sl t.length ((t.map cE).flatten)))] base (pB false) []:=FV.fi func148 [bT] (gc (cL h0) gn)
theorem bTj{r t:List Cel}(h0:(r.length:Int)=(t.length:Int))(Ak:aE Tp 0 aDo (jM r t 0) (.exit 0) (jM r t Av)):FV Tp 148 [(.p (.sl r.length ((r.map cE).flatten))),(.p (.sl t.length ((t.map cE).flatten)))] base (pB true) []:=FV.fi func148 [bF,Ak.k 4 (gZ bu)] (gc Ak.code (gc (bD h0) gn))
theorem bTk{r t:List Cel}(h0:(r.length:Int)=(t.length:Int))(Ak:aE Tp 0 aDo (jM r t 0) .ret (bS (jM r t Av) [(4,(pB false))])):FV Tp 148 [(.p (.sl r.length ((r.map cE).flatten))),(.p (.sl t.length ((t.map cE).flatten)))] base (pB false) []:=FV.fi func148 [bF,Ak.k 4 (gZ bu)] (gc Ak.code (gc (bD h0) gn))
section
variable{r t:List Cel}{Bd Bm:List UInt8}(h0:(i:Int)<(r.length:Int))(h1:r[i]? = some (A5,Bd))(h2:t[i]? = some (Bj,Bm))
include h0 h1 h2
theorem aWc(h3:(decide (A5=Bj) && (decide (Bd=Bm) && true))=false):aA Tp 0 aDo (jM r t i) .ret (bS (jM r t i) [(4,(pB false))]):=aA.fi (gN bm [] [(4,0)]) [bT,.x (.agg [(aB A5),(aC Bd)]),.x (.agg [(aB Bj),(aC Bm)]),bT] (gc (cN h3) (gc (bH (E:=cE) (i:=i) (k:=2) (fun _=>rfl) h2 rfl) (gc (bZ (E:=cE) (i:=i) (k:=2) (fun _=>rfl) h2) (gc (bC (E:=cE) (k:=2) (i:=(i:Int)) (fun _=>rfl) (by decide) (Bf _) h2) (gc (bH (E:=cE) (i:=i) (k:=2) (fun _=>rfl) h1 rfl) (gc (bZ (E:=cE) (i:=i) (k:=2) (fun _=>rfl) h1) (gc (bC (E:=cE) (k:=2) (i:=(i:Int)) (fun _=>rfl) (by decide) (Bf _) h1) (g0 h0))))))))
theorem aWd(h3:(decide (A5=Bj) && (decide (Bd=Bm) && true))=true)(h4:cq i)(Ai:i'=(i+1)):aA Tp 0 aDo (jM r t i) .normal (jM r t i'):=by
 subst Ai;exact aA.fi (gZ bu) [bT,.x (.agg [(aB A5),(aC Bd)]),.x (.agg [(aB Bj),(aC Bm)]),bF] (gc h4 (gc (aO h3) (gc (bH (E:=cE) (i:=i) (k:=2) (fun _=>rfl) h2 rfl) (gc (bZ (E:=cE) (i:=i) (k:=2) (fun _=>rfl) h2) (gc (bC (E:=cE) (k:=2) (i:=(i:Int)) (fun _=>rfl) (by decide) (Bf _) h2) (gc (bH (E:=cE) (i:=i) (k:=2) (fun _=>rfl) h1 rfl) (gc (bZ (E:=cE) (i:=i) (k:=2) (fun _=>rfl) h1) (gc (bC (E:=cE) (k:=2) (i:=(i:Int)) (fun _=>rfl) (by decide) (Bf _) h1) (g0 h0)))))))))
end
theorem aWe{r t:List Cel}(h0:(r.length:Int)≤(i:Int)):aA Tp 0 aDo (jM r t i) (.exit 0) (jM r t i):=aA.fi (gZ bu) [bF] (gc (aJ h0) gn)
theorem bGg(r t:List Cel)(h:r.length≤100000){base:Nat}:FV Tp 148 [.p (.sl r.length ((r.map cE).flatten)),.p (.sl t.length ((t.map cE).flatten))] base (pB (decide (r=t))) []:=by
 by_cases hl:r.length=t.length
 ·have hz:(r.zip t).length=r.length:=by rw [List.length_zip,hl,Nat.min_self]
  rcases aE.find (P:=Tp) (k:=0) (b:=aDo) (fun i=>jM r t i) (fun i _=>bS (jM r t i) [(4,.p (blP false))]) (jM r t r.length) .ret (.exit 0) (by simp) (by simp) (fun q:Cel × Cel => !(decide (q.1=q.2))) (r.zip t)
   (fun i q hx hp=>by
    obtain ⟨h1,h2⟩:=dK hx;have hi:=bG h1;obtain ⟨⟨a,z⟩,b,y⟩:=q;exact aWd (by omega) h1 h2 (by rw [qE];exact (Bool.not_eq_false' _).mp hp) (aL (by omega)) rfl)
   (fun i q hx hp=>by
    obtain ⟨h1,h2⟩:=dK hx;have hi:=bG h1;obtain ⟨⟨a,z⟩,b,y⟩:=q;exact aWc (by omega) h1 h2 (by rw [qE];exact (Bool.not_eq_true' _).mp hp))
   (by rw [hz];exact aWe (by omega)) with ⟨i,q,h1,h2,h3,h4⟩ | ⟨h1,h2,h3⟩
  ·have hne:decide (r=t)=false:=by
    apply decide_eq_false;intro e;subst e;obtain ⟨q1,q2⟩:=dK h1;rw [q1] at q2
    have:q.1=q.2:=by simpa using q2
    simp [this] at h3
   rw [hne];exact bTk (by omega) h4
  ·rw [decide_eq_true (gB r t hl h2)];exact bTj (by omega) h3
 ·have hne:decide (r=t)=false:=decide_eq_false (fun e=>hl (by rw [e]))
  rw [hne];exact bTi (by omega)
def jN(R T:List (List Cel))(i:Nat):St:=⟨fr 27 [(0,(.p (.sl R.length (R.map aP)))),(1,(.p (.sl T.length (T.map aP)))),(12,(pI (R.length:Int))),(13,(pI (i:Int)))],[]⟩
theorem bTl{R T:List (List Cel)}(h0:(R.length:Int)≠(T.length:Int)):FV Tp 99 [(.p (.sl R.length (R.map aP))),(.p (.sl T.length (T.map aP)))] base (pB false) []:=FV.fi func99 [bT] (gc (cL h0) gn)
theorem bTm{R T:List (List Cel)}(h0:(R.length:Int)=(T.length:Int))(Ak:aE Tp 0 aDp (jN R T 0) (.exit 0) (jN R T Av)):FV Tp 99 [(.p (.sl R.length (R.map aP))),(.p (.sl T.length (T.map aP)))] base (pB true) []:=FV.fi func99 [bF,Ak.k 4 (gZ bv)] (gc Ak.code (gc (bD h0) gn))
theorem bTn{R T:List (List Cel)}(h0:(R.length:Int)=(T.length:Int))(Ak:aE Tp 0 aDp (jN R T 0) .ret (bS (jN R T Av) [(4,(pB false))])):FV Tp 99 [(.p (.sl R.length (R.map aP))),(.p (.sl T.length (T.map aP)))] base (pB false) []:=FV.fi func99 [bF,Ak.k 4 (gZ bv)] (gc Ak.code (gc (bD h0) gn))
section
variable{R T:List (List Cel)}{Ab A6:List Cel}(h0:(i:Int)<(R.length:Int))(h1:R[i]? = some Ab)(h2:T[i]? = some A6)(h3:Ab.length≤100000)
include h0 h1 h2 h3
theorem aWf(h4:(decide (Ab=A6))=false):aA Tp 0 aDp (jN R T i) .ret (bS (jN R T i) [(4,(pB false))]):=have k1:=fk 0 (bGg Ab A6 h3) rfl;aA.fi (gN [2,2,5,7,14,13] [] [(4,0)]) [bT,.x (.sl Ab.length ((Ab.map cE).flatten)),.x (.sl A6.length ((A6.map cE).flatten)),k1.o,bT] (gc (cN h4) (gc k1 (gc (atm aP h2) (gc (ixn aP h2) (gc (atm aP h1) (gc (ixn aP h1) (g0 h0)))))))
theorem aWg(h4:(decide (Ab=A6))=true)(h5:cq i)(Ai:i'=(i+1)):aA Tp 0 aDp (jN R T i) .normal (jN R T i'):=by
 subst Ai;have k1:=fk 0 (bGg Ab A6 h3) rfl;exact aA.fi (gZ bv) [bT,.x (.sl Ab.length ((Ab.map cE).flatten)),.x (.sl A6.length ((A6.map cE).flatten)),k1.o,bF] (gc h5 (gc (aO h4) (gc k1 (gc (atm aP h2) (gc (ixn aP h2) (gc (atm aP h1) (gc (ixn aP h1) (g0 h0))))))))
end
theorem aWh{R T:List (List Cel)}(h0:(R.length:Int)≤(i:Int)):aA Tp 0 aDp (jN R T i) (.exit 0) (jN R T i):=aA.fi (gZ bv) [bF] (gc (aJ h0) gn)
theorem bTo(R T:List (List Cel))(h:R.length≤100000)(h2:∀ r∈R,r.length≤100000){base:Nat}:FV Tp 99 [.p (bW R),.p (bW T)] base (pB (decide (R=T))) []:=by
 by_cases hl:R.length=T.length
 ·have hz:(R.zip T).length=R.length:=by rw [List.length_zip,hl,Nat.min_self]
  rcases aE.find (P:=Tp) (k:=0) (b:=aDp) (fun i=>jN R T i) (fun i _=>bS (jN R T i) [(4,.p (blP false))]) (jN R T R.length) .ret (.exit 0) (by simp) (by simp) (fun q:List Cel × List Cel => !(decide (q.1=q.2))) (R.zip T)
   (fun i q hx hp=>by
    obtain ⟨h1,h3⟩:=dK hx;have hi:=bG h1;exact aWg (by omega) h1 h3 (h2 _ (Ci h1)) ((Bool.not_eq_false' _).mp hp) (aL (by omega)) rfl)
   (fun i q hx hp=>by
    obtain ⟨h1,h3⟩:=dK hx;have hi:=bG h1;exact aWf (by omega) h1 h3 (h2 _ (Ci h1)) ((Bool.not_eq_true' _).mp hp))
   (by rw [hz];exact aWh (by omega)) with ⟨i,q,h1,h2,h3,h4⟩ | ⟨h1,h2,h3⟩
  ·have hne:decide (R=T)=false:=by
    apply decide_eq_false;intro e;subst e;obtain ⟨q1,q2⟩:=dK h1;rw [q1] at q2
    have:q.1=q.2:=by simpa using q2
    simp [this] at h3
   rw [hne];exact bTn (by omega) h4
  ·rw [decide_eq_true (gB R T hl h2)];exact bTm (by omega) h3
 ·have hne:decide (R=T)=false:=decide_eq_false (fun e=>hl (by rw [e]))
  rw [hne];exact bTl (by omega)
def pX(r:List Cel)(i on:Nat)(oc:List PV):St:=⟨fr 18 [(2,(.p bM)),(3,(.own 0)),(6,(.p (.sl r.length ((r.map cE).flatten)))),(7,(pI (r.length:Int))),(8,(pI (i:Int)))],[some (.row 179 on oc)]⟩
theorem bTp{r Aj:List Cel}(A2:aE Tp 0 aRw (pX r 0 0 []) (.exit 0) (pX r Av Aj.length ((Aj.map cE).flatten))):FV Tp 116 [(.p (.sl r.length ((r.map cE).flatten)))] base (.p (.sl Aj.length ((Aj.map cE).flatten))) []:=FV.frz (FMM.fi 0 ⟨[],[],[0],[]⟩ func116 [A2.k 8 (gN [0,2,4,2,9,8] [0] [(3,179)])] (gc A2.code gn)) (by kernel_rfl)
theorem aWi{r o:List Cel}{Bd:List UInt8}{o':List Cel}(h0:(i:Int)<(r.length:Int))(h1:r[i]? = some (A5,Bd))(h2:[(aB A5),(aC Bd)].length=1*2∧o.length+1≤1000000)(h3:cq i)(Ai:i'=(i+1))(Ca:o'.length=(o.length+1))(Cb:(o'.map cE).flatten=(((o.map cE).flatten)++[(aB A5),(aC Bd)])):aA Tp 0 aRw (pX r i o.length ((o.map cE).flatten)) .normal (pX r i' o'.length ((o'.map cE).flatten)):=by
 subst Ai;rw [Ca,Cb];exact aA.fi (gI [0,2,4,2,9,8] [3]) [bT,.x (.agg [(aB A5),(aC Bd)])] (gc h3 (gc h2 (gt ([(aB A5),(aC Bd)].length=2) (by first | decide | simp) (gc (bH (E:=cE) (i:=i) (k:=2) (fun _=>rfl) h1 rfl) (gc (bZ (E:=cE) (i:=i) (k:=2) (fun _=>rfl) h1) (gc (bC (E:=cE) (k:=2) (i:=(i:Int)) (fun _=>rfl) (by decide) (Bf _) h1) (g0 h0)))))))
theorem aWj{r o:List Cel}(h0:(r.length:Int)≤(i:Int)):aA Tp 0 aRw (pX r i o.length ((o.map cE).flatten)) (.exit 0) (pX r i o.length ((o.map cE).flatten)):=aA.fi (gI [0,2,4,2,9,8] [0]) [bF] (gc (aJ h0) gn)
theorem bTq(r:List Cel)(h:r.length≤100000){base:Nat}:FV Tp 116 [.p (.sl r.length ((r.map cE).flatten))] base (.p (.sl r.length ((r.map cE).flatten))) []:=by
 have L:=aE.range (P:=Tp) (k:=0) (b:=aRw) (e := .exit 0) (fun i (o:List Cel)=>pX r i o.length ((o.map cE).flatten)) (fun o=>pX r r.length o.length ((o.map cE).flatten)) (fun o x=>o++[x]) (fun i o=>o.length=i) (by simp) r (a0:=[]) rfl
  (fun i x o hx ho=>by
   have hi:=bG hx;obtain ⟨a,z⟩:=x;exact ⟨by simp [ho],aWi (by omega) hx ⟨rfl,by omega⟩ (aL (by omega)) rfl (by simp) (by simp [cE])⟩)
  (fun o _=>aWj (by omega))
 rw [wD,List.nil_append] at L
 exact bTp L
def pY(k:Int)(R:List (List Cel))(i on:Nat)(oc:List PV):St:=⟨fr 25 [(1,(.ptr 0 0)),(2,(.ptr 1 0)),(3,(.ptr 2 0)),(10,(.p (.sl R.length (R.map aP)))),(11,(pI (R.length:Int))),(12,(pI (i:Int)))],[some (.box 26 [(pI k),(.p (.sl R.length (R.map aP)))]),some (.box 32 [(pI 0),(.p bM)]),some (.box 32 [(pI k),(.own 3)]),some (.row 173 on oc)]⟩
theorem bTr{R Aj:List (List Cel)}(A2:aE Tp 0 aRx (pY k R 0 0 []) (.exit 0) (pY k R Av Aj.length ((Aj.map rwE).flatten))):FV Tp 22 [(.p (.agg [(aB k),(.sl R.length (R.map aP))]))] base (.p (.agg [(aB k),(.sl Aj.length ((Aj.map rwE).flatten))])) []:=FV.frz (FMM.fi 0 ⟨[],[],[3],[]⟩ func22 [A2.k 8 (gN [0,1,4,6,13,11] cp [(102001,173)])] (gc A2.code gn)) (by kernel_rfl)
theorem aWk{R o:List (List Cel)}{Ab:List Cel}{o':List (List Cel)}(h0:(i:Int)<(R.length:Int))(h1:R[i]? = some Ab)(h2:Ab.length≤100000)(h3:[(PV.sl Ab.length ((Ab.map cE).flatten))].length=1*1∧o.length+1≤1000000)(h4:cq i)(Ai:i'=(i+1))(Ca:o'.length=(o.length+1))(Cb:(o'.map rwE).flatten=(((o.map rwE).flatten)++[(PV.sl Ab.length ((Ab.map cE).flatten))])):aA Tp 0 aRx (pY k R i o.length ((o.map rwE).flatten)) .normal (pY k R i' o'.length ((o'.map rwE).flatten)):=by
 subst Ai;have k1:=fk 4 (bTq Ab h2) rfl;rw [Ca,Cb];exact aA.fi (gI [0,1,4,6,13,11] [0,1,2,13]) [bT,.x (.sl Ab.length ((Ab.map cE).flatten)),k1.o] (gc h4 (gc h3 (gc k1 (gc (atm aP h1) (gc (ixn aP h1) (g0 h0))))))
theorem aWl{R o:List (List Cel)}(h0:(R.length:Int)≤(i:Int)):aA Tp 0 aRx (pY k R i o.length ((o.map rwE).flatten)) (.exit 0) (pY k R i o.length ((o.map rwE).flatten)):=aA.fi (gI [0,1,4,6,13,11] cp) [bF] (gc (aJ h0) gn)
theorem bGh(k:Int)(R:List (List Cel))(h:R.length≤100000)(h2:∀ r∈R,r.length≤100000){base:Nat}:FV Tp 22 [.p (.agg [aB k,bW R])] base (.p (.agg [aB k,bW R])) []:=by
 have L:=aE.range (P:=Tp) (k:=0) (b:=aRx) (e := .exit 0) (fun i (o:List (List Cel))=>pY k R i o.length ((o.map rwE).flatten)) (fun o=>pY k R R.length o.length ((o.map rwE).flatten)) (fun o x=>o++[x]) (fun i o=>o.length=i) (by simp) R (a0:=[]) rfl
  (fun i x o hx ho=>by
   have hi:=bG hx;have hm:=h2 x (Ci hx);exact ⟨by simp [ho],aWk (by omega) hx hm ⟨rfl,by omega⟩ (aL (by omega)) rfl (by simp) (rI _ _)⟩)
  (fun o _=>aWl (by omega))
 rw [wD,List.nil_append] at L
 have:=bTr (base:=base) L;rw [eU] at this
 exact this
section
variable{R:List (List Cel)}(h0:R.length≤100000)(h1:∀ r∈R,r.length≤100000)
include h0 h1
theorem bTs{T:List (List Cel)}{r0:Bool}(h2:k=j)(Ao:r0=(decide (R=T))):FV Tp 17 [(.p (.agg [(aB k),(.sl R.length (R.map aP))])),(.p (.agg [(aB j),(.sl T.length (T.map aP))]))] base (pB r0) []:=by
 subst Ao;have k1:=fk 2 (bGh k R h0 h1) rfl;have k2:=fk 3 (bTo R T h0 h1) rfl;exact FV.fi func17 ([k1.o]++rT 5++[k2.o,bT]) (gc (cP h2) (gc k2 (B5 (cP h2) (gc k1 gn))))
theorem bTt{T:List (List Cel)}(h2:k≠j):FV Tp 17 [(.p (.agg [(aB k),(.sl R.length (R.map aP))])),(.p (.agg [(aB j),(.sl T.length (T.map aP))]))] base (pB false) []:=have k1:=fk 2 (bGh k R h0 h1) rfl;FV.fi func17 ([k1.o]++rF 6) (Fb (bA h2) (gc k1 gn))
end
theorem bTu(k:Int)(R:List (List Cel))(j:Int)(T:List (List Cel))(h:R.length≤100000)(h2:∀ r∈R,r.length≤100000){base:Nat}:FV Tp 17 [.p (.agg [aB k,bW R]),.p (.agg [aB j,bW T])] base (pB (decide (k=j∧R=T))) []:=by
 by_cases q:k=j
 ·have:=bTs (T:=T) (base:=base) h h2 q rfl
  have e:decide (k=j∧R=T)=decide (R=T):=by simp [q]
  rw [e];exact this
 ·have e:decide (k=j∧R=T)=false:=by simp [q]
  rw [e];exact bTt h h2 q
theorem bTv{s:List UInt8}(h0:(66000:Int)<(s.length:Int))(h1:bHa):FV Tp 3 [(.p (aC s))] base (pB true) []:=FV.fi func3 [bT,.c (pB true) []] (gc (fk 0 (h1 _) rfl) (g0 h0))
theorem bTw{s:List UInt8}(h0:(s.length:Int)≤66000)(h1:((prM s).2.2.2.2)=((prM s).2.2.2.2))(h2:((prM s).2.2.1)=((prM s).2.2.1))(h3:((prM s).2.2.2.1)=((prM s).2.2.2.1))(h4:((prM s).2.1).length≤100000)(h5:∀ r∈((prM s).2.1),r.length≤100000)(h6:(decide (((prM s).1)=((prM s).1)∧((prM s).2.1)=((prM s).2.1)))=true)(h7:bHa):FV Tp 3 [(.p (aC s))] base (pB true) []:=have k1:=fk 0 (aPx s) rfl;have k2:=fk 1 (bUd s) rfl;have k3:=fk 2 (bTu ((prM s).1) ((prM s).2.1) ((prM s).1) ((prM s).2.1) h4 h5) rfl;FV.fi func3 ([bF,k1.o,k2.o]++rT 11++[k3.o,bT,bT,.c (pB true) [],bT]) (gc h6 (gc (fk 2 (h7 _) rfl) (gc h6 (gc (cP h3) (gc k3 (Ap (cP h3) (Db (cP h2) (Db (cP h1) (gc k2 (gc k1 (gc (aJ h0) gn)))))))))))
theorem bGi(s:List UInt8):(prM s).2.1.length≤100000∧∀ r∈(prM s).2.1,r.length≤100000:=by
 have h0:([]:List (List Cel)).length≤100000∧∀ r∈([]:List (List Cel)),r.length≤100000:=⟨by decide,fun r h=>by cases h⟩
 unfold prM
 by_cases hs:65536<s.length
 ·rw [if_pos hs];exact h0
 ·rw [if_neg hs]
  cases hi:itB (prF s) prA (cG s) with
  | error e=>exact h0
  | ok a =>
   have hok:=uX (cG s) [] prA a aGv hi;dsimp only
   by_cases hd:a.dn=true
   ·rw [if_pos hd]
    have h1:=hok.nr;rw [List.nil_append] at h1
    have:=jU _ s (Bo _);have:=hok.Rn;refine ⟨by dsimp only;omega,fun r hr => ?_⟩
    rw [hok.R r hr];have:=iT a.kd;omega
   ·rw [if_neg hd];exact h0
theorem bTx(s:List UInt8)(ha:bHa){base:Nat}:FV Tp 3 [.p (aC s)] base (pB true) []:=by
 obtain ⟨h1,h2⟩:=bGi s
 by_cases hs:66000<s.length
 ·exact bTv (by omega) ha
 ·exact bTw (by omega) rfl rfl rfl h1 h2 (decide_eq_true ⟨rfl,rfl⟩) ha
end
end KV
end Go.Proofs
section
namespace Go.Proofs
open Go.RowKit
namespace KV
open Tryz
abbrev itV(it:Nat):Value := .pointer (some ⟨it,0,none⟩)
def jB(W:World)(it:Nat)(s:ByteArray)(pos:Nat):World:={ W with heap:=W.heap.setIfInBounds it (.stringIter s pos) }
theorem bCh{P:Program}{W:World}{it pos:Nat}{s:ByteArray}{ty:TypeId}(h:W.heap[it]? = some (.stringIter s pos))(hp:pos<s.size) :
  (Instr.next (itV it) true ty).run P W = .ok (.tuple #[.bool true,.int .i64 pos,.int .i32 (Utf8.decode s pos).1]) (jB W it s (pos+(Utf8.decode s pos).2)):=by
 simp only [Instr.next,getObj,setObj,Sem.run_bind,Sem.run,h,Result.andThen,hp,if_true];simp [goInt,Sem.run,h,jB]
theorem bCi{P:Program}{W:World}{it pos:Nat}{s:ByteArray}{ty:TypeId}(h:W.heap[it]? = some (.stringIter s pos))(hp:¬ pos<s.size) :
  (Instr.next (itV it) true ty).run P W = .ok (.tuple #[.bool false]) W:=by
 simp [Instr.next,getObj,Sem.run,h,hp]
theorem kI{W:World}{it pos c:Nat}{s:ByteArray}(h:c≠it):(jB W it s pos).heap[c]? = W.heap[c]? := by
 simp [jB,Array.getElem?_setIfInBounds,Ne.symm h]
theorem bJy{W:World}{it pos:Nat}{s:ByteArray}(h:it<W.heap.size):(jB W it s pos).heap[it]? = some (.stringIter s pos):=by
 simp [jB,h]
theorem tG{W:World}{it pos:Nat}{s:ByteArray}:(jB W it s pos).heap.size=W.heap.size:=by simp [jB]
structure aTk (C:Cx) (M:Mem) (w0 W:World) (it:Nat):Prop where
 nF:¬ C.F it
 nL:∀ (id:Nat) (o:AO),M[id]? = some (some o)→o.live=true→C.ι id≠some it
 lt:it<W.heap.size
 ge:w0.heap.size≤it
variable {P:Program} {C C0:Cx} {M M0:Mem} {w0 W:World}
theorem cCk{it pos:Nat}{s:ByteArray}(hM:aX P C M W)(hL:aTk C M w0 W it):aX P C M (jB W it s pos):=by
 have hFz:∀ c,C.F c→(jB W it s pos).heap[c]? = W.heap[c]? := fun c hc=>kI (fun e=>hL.nF (e ▸ hc))
 have hLe:Le C C M M W (jB W it s pos):=⟨fun _ o h=>⟨o,h⟩,fun _ _ _ _ _ cs h=>⟨cs,h⟩,fun _ o h o' h' hl=>by rw [h] at h';cases h';exact ⟨hl,rfl,rfl⟩,fun _ h=>h,hFz⟩
 refine ⟨fun i ty n cs hm => ?_,fun i ty cs hm => ?_,fun i es cl hm => ?_,hM.inj,hM.nF,fun c hc=>by rw [tG];exact hM.Fs c hc,fun i o c ho hl hb=>by rw [tG];exact hM.lt i o c ho hl hb,hM.lib.le hLe⟩
 ·rcases hM.row _ _ _ _ hm with h4 | ⟨c,arr,inf,q0,q1,q2,q3,q4,q5,q6,q7,q8⟩
  ·exact .inl h4
  ·exact .inr ⟨c,arr,inf,q0,(kI (fun (e:c=it)=>hL.nL _ _ hm rfl (by rw [← e];exact q0))).trans q1,q2,q3,q4,q5,q6,fun j hj=>(q7 j hj).mono hLe.F hLe.fz,q8⟩
 ·obtain ⟨c,arr,q0,q1,q2,q3,q4⟩:=hM.box _ _ _ hm
  exact ⟨c,arr,q0,(kI (fun (e:c=it)=>hL.nL _ _ hm rfl (by rw [← e];exact q0))).trans q1,q2,fun j hj=>(q3 j hj).mono hLe,q4⟩
 ·obtain ⟨c,arr,q0,q1,q2,q3⟩:=hM.mp _ _ _ hm
  refine ⟨c,arr,q0,(kI (fun (e:c=it)=>hL.nL _ _ hm rfl (by rw [← e];exact q0))).trans q1,q2,fun j hj => ?_⟩
  obtain ⟨en,r1,r2,r3,r4⟩:=q3 j hj;exact ⟨en,r1,r2,r3,r4.mono hLe.F hLe.fz⟩
theorem cFp{it pos:Nat}{s:ByteArray}(hL:aTk C M w0 W it):Le C C M M W (jB W it s pos) :=
 ⟨fun _ o h=>⟨o,h⟩,fun _ _ _ _ _ cs h=>⟨cs,h⟩,fun _ o h o' h' hl=>by rw [h] at h';cases h';exact ⟨hl,rfl,rfl⟩,fun _ h=>h,fun c hc=>kI (fun e=>hL.nF (e ▸ hc))⟩
theorem cFq{it pos:Nat}{s:ByteArray}(f:Fr C0 M0 w0 C M W)(hL:aTk C M w0 W it):Fr C0 M0 w0 C M (jB W it s pos):=by
 refine ⟨f.os,f.tape,f.out,by rw [tG];exact f.size,fun c hc hn=>(kI (fun e => ?_)).trans (f.keep c hc hn),f.ids,f.row,f.liv,f.new,f.F1,f.F2⟩
 have:=hL.ge;omega
inductive Runes (s:ByteArray):Nat→List (Nat × Nat)→Prop
 | nil {pos:Nat} (h:¬ pos<s.size):Runes s pos []
 | cons {pos:Nat} {c wd:Nat} {l:List (Nat × Nat)} (h:pos<s.size) (hd:Utf8.decode s pos=(c,wd)) (hr:Runes s (pos+wd) l):Runes s pos ((pos,c)::l)
abbrev nxR(id gi d c Eu Es:Nat)(p1 p2:String):Code := .region id #[{ dst:=some d,op := .next (.tmp gi) true,type:=Eu,pos:=p1,after := #[],guard:=none },{ dst:=some c,op := .extract (.tmp d) 0,type:=Es,pos:=p2,after := #[{ on:=0,ground:=Ground.data }],guard:=none }] false
def nxT(T:List AV)(d c pos r:Nat):List AV:=put (put T (some d) (.tup [.p (blP true),.p (aB (pos:Int)),.p (.v (.int .i32 (r:Int)))])) (some c) (.p (blP true))
theorem cFr{ro:Option Nat}{n id gi d c Eu Es pos:Nat}{p1 p2:String}{s:ByteArray}{Q:Exit→Act→World→Prop}{a:Act}{it:Nat}(hg:a.eval (.tmp gi)=itV it)(hW:W.heap[it]? = some (.stringIter s pos))(hp:pos<s.size){K:Act→World→Prop}
  (hd:d<a.tmps.size)
  (h:K ((a.put (some d) (.tuple #[.bool true,.int .i64 pos,.int .i32 (Utf8.decode s pos).1])).put (some c) (.bool true)) (jB W it s (pos+(Utf8.decode s pos).2))):(nxR id gi d c Eu Es p1 p2).wpIn (Fen ro) n Tp (Exit.then K Q) a W:=by
 refine wpIn_region_lit (wpListIn_plain rfl fun K' H6 => ?_)
 unfold Oper.wpIn;refine ⟨fun f hf => ?_,?_⟩
 ·simp [Oper.about] at hf
 rw [Oper.semAt_plain _ _ _ (by intro c D6;cases D6)]
 simp only [execOp,hg,Sem.run_bind,bCh hW hp,Result.andThen,Sem.run_pure];refine H6 _ _ (wpListIn_plain rfl fun K2 Jm => ?_)
 unfold Oper.wpIn;refine ⟨fun f hf => ?_,?_⟩
 ·simp [Oper.about] at hf
 rw [Oper.semAt_plain _ _ _ (by intro c D6;cases D6)]
 have he:(a.put (some d) (.tuple #[.bool true,.int .i64 pos,.int .i32 (Utf8.decode s pos).1])).eval (.tmp d) = .tuple #[.bool true,.int .i64 pos,.int .i32 (Utf8.decode s pos).1]:=by
  simp [Act.put,Act.eval,hd]
 simp only [execOp,he];simp [Instr.extract,Sem.run];exact Jm _ _ (wpListIn_nil h)
theorem cCl{ro:Option Nat}{n id gi d c Eu Es pos:Nat}{p1 p2:String}{s:ByteArray}{Q:Exit→Act→World→Prop}{a:Act}{it:Nat}(hg:a.eval (.tmp gi)=itV it)(hW:W.heap[it]? = some (.stringIter s pos))(hp:¬ pos<s.size){K:Act→World→Prop}
  (hd:d<a.tmps.size)
  (h:K ((a.put (some d) (.tuple #[.bool false])).put (some c) (.bool false)) W):(nxR id gi d c Eu Es p1 p2).wpIn (Fen ro) n Tp (Exit.then K Q) a W:=by
 refine wpIn_region_lit (wpListIn_plain rfl fun K' H6 => ?_)
 unfold Oper.wpIn;refine ⟨fun f hf => ?_,?_⟩
 ·simp [Oper.about] at hf
 rw [Oper.semAt_plain _ _ _ (by intro c D6;cases D6)]
 simp only [execOp,hg,Sem.run_bind,bCi hW hp,Result.andThen,Sem.run_pure];refine H6 _ _ (wpListIn_plain rfl fun K2 Jm => ?_)
 unfold Oper.wpIn;refine ⟨fun f hf => ?_,?_⟩
 ·simp [Oper.about] at hf
 rw [Oper.semAt_plain _ _ _ (by intro c D6;cases D6)]
 have he:(a.put (some d) (.tuple #[.bool false])).eval (.tmp d) = .tuple #[.bool false]:=by
  simp [Act.put,Act.eval,hd]
 simp only [execOp,he];simp [Instr.extract,Sem.run];exact Jm _ _ (wpListIn_nil h)
abbrev rgR(id i0 m gi Eu Es tx:Nat)(p1 p2:String):Code := .region id #[{ dst:=some m,op := .move (.tmp i0),type:=Eu,pos:=p1,after := #[],guard:=none },{ dst:=some gi,op := .range tx (.tmp m),type:=Es,pos:=p2,after := #[{ on:=0,ground:=Ground.data }],guard:=none }] false
theorem cFs{ro:Option Nat}{n id i0 m gi Eu Es:Nat}{p1 p2:String}{s:ByteArray}{Q:Exit→Act→World→Prop}{a:Act}(hi:a.eval (.tmp i0) = .string s){K:Act→World→Prop}(hm:m<a.tmps.size)
  (h:K ((a.put (some m) (.string s)).put (some gi) (itV W.heap.size)) (W.alloc (.stringIter s 0))):(rgR id i0 m gi Eu Es 9 p1 p2).wpIn (Fen ro) n Tp (Exit.then K Q) a W:=by
 refine wpIn_region_lit (wpListIn_plain rfl fun K' H6 => ?_)
 unfold Oper.wpIn;refine ⟨fun f hf => ?_,?_⟩
 ·simp [Oper.about] at hf
 rw [Oper.semAt_plain _ _ _ (by intro c D6;cases D6)]
 simp only [execOp,hi,Sem.run_pure];refine H6 _ _ (wpListIn_plain rfl fun K2 Jm => ?_)
 unfold Oper.wpIn;refine ⟨fun f hf => ?_,?_⟩
 ·simp [Oper.about] at hf
 rw [Oper.semAt_plain _ _ _ (by intro c D6;cases D6)]
 have he:(a.put (some m) (.string s)).eval (.tmp m) = .string s:=by
  simp [Act.put,Act.eval,hm]
 simp only [execOp,he];have hr:(Instr.range 9 (.string s)).run Tp W = .ok (itV W.heap.size) (W.alloc (.stringIter s 0)):=by
  exact run_range_string W 9 s Tryz.underlying9
 simp only [Sem.run_bind,hr,Result.andThen,Sem.run_pure];exact Jm _ _ (wpListIn_nil h)
theorem aTl{u v:Value}(h:Rep C M W (.p (.v u)) v):v=u:=by cases h with | p _ _ h=>cases h;rfl
theorem aLg{F:Fence}{n:Nat}{c:Code}{Q Q':Exit→Act→World→Prop}{a:Act}{w:World}(h:LoopIn F n P c Q a w)(hq:∀ e a w,Q e a w→Q' e a w):LoopIn F n P c Q' a w:=fun b k cs hro hb hr=>let ⟨e,a',w',q,r⟩:=h b k cs hro hb hr;⟨e,a',w',hq _ _ _ q,r⟩
abbrev aQi(C0:Cx)(M0:Mem)(w0:World)(st:St)(a:Act)(W:World)(it pos:Nat)(s:ByteArray):Prop:=Sim Tp (C0.with ((it,.stringIter s pos)::C0.R)) M0 w0 st a W
theorem aTm{st:St}{a:Act}{it pos:Nat}{s:ByteArray}(h:aQi C0 M0 w0 st a W it pos s):W.heap[it]? = some (.stringIter s pos):=by
 obtain ⟨C,_,_,_,_,hR,_⟩:=h;exact (hR (it,.stringIter s pos) (lV ..)).1
theorem bCj{st:St}{a a':Act}{T':List AV}{it pos Ga:Nat}{s:ByteArray}(hR:∀ p∈C0.R,p.1≠it)(hpk:xT st.m)(h:aQi C0 M0 w0 st a W it pos s)(ha:a'.defers=a.defers)
  (hT:∀ C,cV C st.m (jB W it s Ga) st.t a.tmps→cV C st.m (jB W it s Ga) T' a'.tmps):aQi C0 M0 w0 ⟨T',st.m⟩ a' (jB W it s Ga) it Ga s:=by
 obtain ⟨C,hS,hM,hF,⟨l,e1,e2,e3⟩,hRes,_⟩:=h;obtain ⟨q1,q2,q3,q4,q5⟩:=hRes (it,.stringIter s pos) (lV ..);have hlt:it<W.heap.size:=(Em.1 q1).1;have hL:aTk C st.m w0 W it:=⟨q4,q5,hlt,q2⟩;refine ⟨C,hT C (hS.le (cFp hL)),cCk hM hL,(cFq hF.unbased hL).based _,⟨l,by rw [ha];exact e1,e2,fun D hD => ?_⟩,fun p hp => ?_,.no hpk⟩
 ·obtain ⟨r1,r2,r3⟩:=e3 D hD
  refine ⟨(kI (fun e => ?_)).trans r1,r2,r3⟩
  subst e;have:=q1.symm.trans r1;cases this
 ·rcases nK.1 hp with rfl | hp
  ·exact ⟨bJy hlt,q2,by simp,q4,q5⟩
  ·obtain ⟨r1,r2,r3,r4,r5⟩:=hRes p (Df _ hp)
   exact ⟨(kI (hR p hp)).trans r1,r2,r3,r4,r5⟩
theorem eW{a:Act}{d:Option Nat}{u:Value}:(a.put d u).defers=a.defers:=by unfold Act.put;split <;> rfl
theorem aBi{a:Act}{d:Option Nat}{u:Value}:(a.put d u).tmps.size=a.tmps.size:=by unfold Act.put;split <;> simp
theorem bJz{a:Act}{d:Nat}(h:d<a.tmps.size):(a.put (some d) (a.tmps.getD d undef)).tmps=a.tmps:=by
 simp only [Act.put];apply Array.ext_getElem?;intro i
 by_cases e:d=i
 ·subst e
  simp [h,Array.getD]
 ·simp [e]
theorem aHe{a:Act}{d:Nat}{u:Value}(h:d<a.tmps.size):(a.put (some d) u).eval (.tmp d)=u:=by simp [Act.put,Act.eval,h]
theorem bPp{β:Type}{k id gi d c Eu Es e0 it:Nat}{p1 p2:String}{body LB:Code}{s:ByteArray}(S:β→PV→St)(f:β→Nat × Nat→β)(b0:β)(L:List (Nat × Nat))
  (hLB:LB = .seq (nxR id gi d c Eu Es p1 p2) (.seq (.cond (.tmp c) .skip (.exit e0)) body)) (hnrf:nrf body=true)
  (hg:∀ b g,(S b g).t[gi]? = some (.p g)) (hd:∀ b g,d<(S b g).t.length) (hc:∀ b g,c<(S b g).t.length) (hT:∀ b g,put (put (S b g).t (some d) .any) (some c) .any=(S b g).t) (hpk:∀ b g,xT (S b g).m)
  (hb:∀ pre x g,pre++[x] <+: L→aA Tp k body ⟨nxT (S (pre.foldl f b0) g).t d c x.1 x.2,(S (pre.foldl f b0) g).m⟩ .normal (S (f (pre.foldl f b0) x) g))
  (hR:∀ p∈C0.R,p.1≠it) (hk:M0.length≤k) {ro:Option Nat} {n:Nat}:∀ (l:List (Nat × Nat)) (pos:Nat) (pre:List (Nat × Nat)) (a:Act) (W:World),Runes s pos l→pre++l=L→aQi C0 M0 w0 (S (pre.foldl f b0) (.v (itV it))) a W it pos s →
   LoopIn (Fen ro) n Tp LB (fun e' a' w'=>e' = .exit e0∧∃ Ga,aQi C0 M0 w0 (S (L.foldl f b0) (.v (itV it))) a' w' it Ga s) a W:=by
 intro l
 induction l with
 | nil =>
  intro pos pre a W hr hp hs;have hn:¬ pos<s.size:=by cases hr;assumption
  rw [List.append_nil] at hp
  subst hp;subst hLB;have hat:=aTm hs;obtain ⟨C,hS,hM,hF,hD⟩:=hs;have hsz:a.tmps.size=(S (pre.foldl f b0) (.v (itV it))).t.length:=hS.size;have hgi:a.eval (.tmp gi)=itV it:=aTl (hS.at (hg (pre.foldl f b0) (.v (itV it))))
  refine LoopIn.step (wpIn_seq (cCl hgi hat hn (by rw [hsz];exact hd _ _) (wpIn_seq (wpIn_cond_false (aHe (by rw [aBi,hsz];exact hc _ _)) (wpIn_exit ?_)))))
  refine ⟨rfl,pos,C,?_,hM,hF,by rw [eW,eW];exact hD⟩
  have:=cV.put (d:=some c) (cV.put (d:=some d) (v := .tuple #[.bool false]) hS (.any _)) (v := .bool false) (.any _);rw [hT] at this
  exact this
 | cons x l ih =>
  intro pos pre a W hr hp hs;subst hLB;have hat:=aTm hs;have Ho:=hs;obtain ⟨C,hS,hM,hF,hD⟩:=Ho;have hsz:a.tmps.size=(S (pre.foldl f b0) (.v (itV it))).t.length:=hS.size;have hgi:a.eval (.tmp gi)=itV it:=aTl (hS.at (hg (pre.foldl f b0) (.v (itV it))))
  cases hr with
  | cons hlt hdc D5 =>
  rename_i r wd;refine LoopIn.step (wpIn_seq (cFr hgi hat hlt (by rw [hsz];exact hd _ _) (wpIn_seq (wpIn_cond_true (aHe (by rw [aBi,hsz];exact hc _ _)) (wpIn_skip ?_)))))
  rw [hdc];have Du:aQi C0 M0 w0 ⟨nxT (S (pre.foldl f b0) (.v (itV it))).t d c pos r,(S (pre.foldl f b0) (.v (itV it))).m⟩ ((a.put (some d) (.tuple #[.bool true,.int .i64 pos,.int .i32 (r:Int)])).put (some c) (.bool true)) (jB W it s (pos+wd)) it (pos+wd) s:=by
   refine bCj hR (hpk _ _) hs (by rw [eW,eW]) fun C' L4 => ?_
   refine cV.put (cV.put L4 (.tup _ _ rfl fun i hi => ?_)) (.p _ _ (.v _))
   match i,hi with
   | 0,_=>exact .p _ _ (.v _)
   | 1,_=>exact .p _ _ (.v _)
   | 2,_=>exact .p _ _ (.v _)
  refine wpIn_mono (hb pre (pos,r) (.v (itV it)) ⟨l,by rw [← hp];simp⟩ _ _ _ _ _ hk Du ro (.inr hnrf) n) ?_
  rintro e' a' w' ⟨rfl,Fw⟩;exact ih (pos+wd) (pre++[(pos,r)]) a' w' D5 (by rw [← hp];simp) (by rw [List.foldl_append];exact Fw)
theorem bKa{β:Type}{k i0 m Ox id gi d c Eu Es Ji Oy e0:Nat}{p1 p2 p3 p4:String}{body cc:Code}(s:List UInt8)(S:β→St)(G:β→PV→St)(f:β→Nat × Nat→β)(b0:β)(L:List (Nat × Nat))(hLr:Runes ⟨s.toArray⟩ 0 L)
  (hcc:cc = .seq (rgR Ox i0 m gi Ji Oy 9 p3 p4) (.block e0 (.loop (.seq (nxR id gi d c Eu Es p1 p2) (.seq (.cond (.tmp c) .skip (.exit e0)) body))))) (hnrf:nrf body=true)
  (Qc:(S b0).t[i0]? = some (.p (aC s))) (hm:m<(S b0).t.length) (Qd:∀ g,put (put (S b0).t (some m) .any) (some gi) (.p g)=(G b0 g).t) (hGm:∀ b g,(G b g).m=(S b).m) (hGe:∀ b g,put (G b g).t (some gi) .any=(S b).t)
  (hg:∀ b g,(G b g).t[gi]? = some (.p g)) (hgs:∀ b g,gi<(G b g).t.length) (hd:∀ b g,d<(G b g).t.length) (hc:∀ b g,c<(G b g).t.length) (hT:∀ b g,put (put (G b g).t (some d) .any) (some c) .any=(G b g).t) (hpk:∀ b,xT (S b).m)
  (hb:∀ pre x g,pre++[x] <+: L→aA Tp k body ⟨nxT (G (pre.foldl f b0) g).t d c x.1 x.2,(G (pre.foldl f b0) g).m⟩ .normal (G (f (pre.foldl f b0) x) g)) :
  aA Tp k cc (S b0) .normal (S (L.foldl f b0)):=by
 intro C0 M0 w0 a w hk hs ro hro n;subst hcc;obtain ⟨C,hS,hM,hF,⟨l,e1,e2,e3⟩,hRes,hP⟩:=hs;have hsz:a.tmps.size=(S b0).t.length:=hS.size;have hst:a.eval (.tmp i0) = .string ⟨s.toArray⟩:=aTl (hS.at Qc)
 obtain ⟨W,hW⟩:∃ W,W=w.alloc (.stringIter ⟨s.toArray⟩ 0):=⟨_,rfl⟩;have hWs:W.heap.size=w.heap.size+1:=by rw [hW];simp [World.alloc,-World.alloc_eq]
 have hWo:∀ b,b<w.heap.size→W.heap[b]? = w.heap[b]? := fun b hb=>by rw [hW];simp [World.alloc,-World.alloc_eq,Array.getElem?_push];omega
 have hWa:W.heap[w.heap.size]? = some (.stringIter ⟨s.toArray⟩ 0):=by rw [hW];simp [World.alloc,-World.alloc_eq]
 obtain ⟨f1,m1⟩:=pH (C:=C) (kb:=some w.heap.size) (w':=W) hM (by rw [hW];rfl) (by rw [hW];rfl) (by rw [hW];rfl) (by omega) hWo
 have hnl:∀ (i:Nat) (o:AO),(S b0).m[i]? = some (some o)→o.live=true→C.ι i≠some w.heap.size:=fun i o ho hl he=>absurd (hM.lt i o _ ho hl he) (Nat.lt_irrefl _)
 have hRne:∀ p∈C0.R,p.1≠w.heap.size:=fun p hp e=>by
  have:=(hRes p hp).1;rw [e,Array.getElem?_eq_none (Bo _)] at this
  cases this
 refine wpIn_seq (cFs hst (by rw [hsz];exact hm) ?_)
 rw [← hW];have Dn:aQi C0 M0 w0 (G b0 (.v (itV w.heap.size))) ((a.put (some m) (.string ⟨s.toArray⟩)).put (some gi) (itV w.heap.size)) W w.heap.size 0 ⟨s.toArray⟩:=by
  have hSl:cV (C.after w W (some w.heap.size)) (S b0).m W (G b0 (.v (itV w.heap.size))).t ((a.put (some m) (.string ⟨s.toArray⟩)).put (some gi) (itV w.heap.size)).tmps:=by
   rw [← Qd];exact cV.put (cV.put (hS.le (hM.le f1)) (.any _)) (.p _ _ (.v _))
  refine ⟨C.after w W (some w.heap.size),by rw [hGm];exact hSl,by rw [hGm];exact m1,by rw [hGm];exact (hF.trans f1).based _,?_⟩
  rw [eW,eW,hGm];obtain ⟨h1,h2,h3⟩:=lD.fr (C0:=C0) ⟨⟨l,e1,e2,e3⟩,hRes,hP⟩ hM .refl f1;refine ⟨h1,fun p hp => ?_,.no (hpk _)⟩
  rcases nK.1 hp with rfl | hp
  ·refine ⟨hWa,hF.size,by simp,fun hf => ?_,hnl⟩
   rcases hf with hf | ⟨_,hf⟩
   ·exact absurd (hM.Fs _ hf) (Nat.lt_irrefl _)
   ·simp at hf
  ·exact h2 p hp
 refine wpIn_block (LoopIn.wp (aLg (bPp G f b0 L rfl hnrf hg hd hc hT (fun b g=>by rw [hGm];exact hpk b) hb hRne hk L 0 [] _ W hLr rfl Dn) ?_))
 rintro e' a' w' ⟨rfl,Ga,Du⟩;simp only [Exit.inBlock,if_true];refine ⟨rfl,?_⟩;obtain ⟨C2,Je,Gg,E1,C7,Dj,_⟩:=Du;rw [hGm] at Je Gg E1 Dj
 refine ⟨C2,?_,Gg,E1.unbased,C7,fun p hp=>Dj p (Df _ hp),.no (hpk _)⟩
 have:=cV.put (d:=some gi) (v:=a'.tmps.getD gi undef) Je (.any _);rw [hGe,bJz (by rw [Je.size];exact hgs _ _)] at this
 exact this
end KV
end Go.Proofs
end
section
namespace Go.Proofs
open Go.RowKit
namespace KV
open Tryz
def aBh(cs:List UInt8)(r:Nat):Bool:=decide (0≤Lib.indexByte cs r.toUInt8)
theorem cCi(cs:List UInt8)(r:Nat)(h:r<128){base:Nat}:FV Tp 216 [.p (aC cs),.p (.v (.int .i32 (r:Int)))] base (.p (blP (aBh cs r))) []:=FV.ofc rfl fun C w us hus hM=>by
 obtain rfl:=G2 rfl rfl hus;refine (Tryz.strings_ContainsRune_ascii ⟨cs.toArray⟩ (r:Int) w (by omega) (by omega)).mono ?_
 rintro e w' ⟨rfl,rfl⟩;exact ⟨_,rfl,Below.refl _ _,.p _ _ (.v _)⟩
abbrev xoR(id i j k Eu Es Ji:Nat)(p1 p2 p3:String)(q:Array Edge):Code := .region id #[{ dst:=some j,op := .move (.tmp i),type:=Eu,pos:=p1,after := #[],guard:=none },{ dst:=some k,op := .unOp .xor 3 (.tmp j),type:=Es,pos:=p2,after := #[{ on:=0,ground:=Ground.data }],guard:=none },{ dst:=some i,op := .assign (.tmp k),type:=Ji,pos:=p3,after:=q,guard:=none }] false
theorem cCj{kk id i j k Eu Es Ji:Nat}{p1 p2 p3:String}{q:Array Edge}{cc:Code}{st An:St}{v:Int}(hcc:cc=xoR id i j k Eu Es Ji p1 p2 p3 q)(hi:st.t[i]? = some (.p (aB v)))(hj:j<st.t.length)(hk:k<st.t.length)(hv:0≤v∧v<9223372036854775808)
  (hp:put (put (put st.t (some j) .any) (some k) .any) (some i) (.p (aB (-1-v)))=An.t) (hm:An.m=st.m):aA Tp kk cc st .normal An:=by
 intro C0 M0 w0 a w hk0 hs ro hro n;subst hcc;obtain ⟨C,hS,hM,hF,hD⟩:=hs;have hsz:a.tmps.size=st.t.length:=hS.size;have Qa:a.eval (.tmp i) = .int .i64 v:=aTl (hS.at hi)
 refine wpIn_region_lit (wpListIn_plain rfl fun K' H6 => ?_)
 unfold Oper.wpIn;refine ⟨fun f hf => ?_,?_⟩
 ·simp [Oper.about] at hf
 rw [Oper.semAt_plain _ _ _ (by intro c D6;cases D6)]
 simp only [execOp,Qa,Sem.run_pure];refine H6 _ _ (wpListIn_plain rfl fun K2 Jm => ?_)
 unfold Oper.wpIn;refine ⟨fun f hf => ?_,?_⟩
 ·simp [Oper.about] at hf
 rw [Oper.semAt_plain _ _ _ (by intro c D6;cases D6)]
 have he:(a.put (some j) (.int .i64 v)).eval (.tmp j) = .int .i64 v:=aHe (by rw [hsz];exact hj)
 have hb:bits .xor .i64 (-1) v = -1-v:=by
  have:=i64_not v.toNat (by omega)
  rw [show ((v.toNat:Nat):Int)=v from by omega] at this
  exact this
 have hx:(Op.unary .xor (.int .i64 v)).run Tp w = .ok (.int .i64 (-1-v)) w:=by
  rw [unary_xor,← hb];rfl
 simp only [execOp,he,Sem.run_bind,hx,Result.andThen,Sem.run_pure];refine Jm _ _ (wpListIn_plain rfl fun K3 Kr => ?_)
 unfold Oper.wpIn;refine ⟨fun f hf => ?_,?_⟩
 ·simp [Oper.about] at hf
 rw [Oper.semAt_plain _ _ _ (by intro c D6;cases D6)]
 have Qb:((a.put (some j) (.int .i64 v)).put (some k) (.int .i64 (-1-v))).eval (.tmp k) = .int .i64 (-1-v):=aHe (by rw [aBi,hsz];exact hk)
 simp only [execOp,Qb,Sem.run_pure];refine Kr _ _ (wpListIn_nil ⟨rfl,C,?_,by rw [hm];exact hM,by rw [hm];exact hF,by rw [eW,eW,eW,hm];exact hD⟩)
 rw [hm,← hp];exact cV.put (cV.put (cV.put hS (.any _)) (.any _)) (.p _ _ (.v _))
def gM:Nat→List UInt8→List (Nat × Nat)
 | _,[]=>[]
 | i,b::r=>(i,b.toNat)::gM (i+1) r
theorem aEt(s:List UInt8)(h:∀ b∈s,b.toNat<128):∀ (l:List UInt8) (i:Nat),s.drop i=l→Runes ⟨s.toArray⟩ i (gM i l)
 | [],i,hl => .nil (by
  have:=congrArg List.length hl;simp [ByteArray.size] at this ⊢;omega)
 | b::r,i,hl=>by
  have h0:i<s.length:=by
   have:=congrArg List.length hl;simp at this;omega
  have hb:s[i]=b:=by
   have:=congrArg (·[0]?) hl
   simpa [h0] using this
  have hsz:i<(⟨s.toArray⟩:ByteArray).size:=by simpa [ByteArray.size] using h0
  have hg:(⟨s.toArray⟩:ByteArray)[i]'hsz=b:=hb;refine .cons hsz ((decode_ascii ⟨s.toArray⟩ i hsz (by rw [hg,← hb];exact h _ (iF h0))).trans (by rw [hg])) (aEt s h r (i+1) ?_)
  rw [← List.tail_drop,hl];rfl
end KV
end Go.Proofs
end
section
namespace Go.Proofs
open Go.RowKit Go.Maps
namespace KV
open Tryz
set_option maxRecDepth 1000000
abbrev k3V(a b c:Int):Value := .agg #[.int .i64 a,.int .i64 b,.int .i64 c]
theorem Jr:Tryz.prog.underlying 186=some (.array 3 3):=by kernel_rfl
theorem u3:Tryz.prog.underlying 3=some (.int .i64):=by kernel_rfl
theorem Iv:Tryz.prog.keyType 186=true:=by kernel_rfl
theorem N4:Tryz.prog.cellsOf 186=3:=by kernel_rfl
theorem c3:Tryz.prog.cellsOf 3=1:=by kernel_rfl
theorem laid:laidOutB Tp=true:=by kernel_rfl
theorem tsz:Nat.ble (Tryz.prog.types.size+2) 10000=true:=by kernel_rfl
theorem K5:Nat.ble 187 Tryz.prog.types.size=true:=by kernel_rfl
theorem Eg:Keyed Tp 186:=Keyed.of_law (deep_law_gate laid (Nat.le_of_ble_eq_true tsz) (Nat.le_of_ble_eq_true K5) Iv (by rw [Jr]))
theorem N5(a b c:Int):(k3V a b c).formed Tp 186=true:=by kernel_rfl
theorem K6{d:Nat}{a:Int}(ha:(Lit.int .i64 a).wf=true):Tryz.prog.keyLits (d+1) 3 [.int .i64 a]=some [.int .i64 a]:=by
 rw [Program.keyLits]
 rotate_left
 ·exact .i64
 ·exact u3
 simp [ha]
theorem Ib{d:Nat}{a b c:Int}(ha:(Lit.int .i64 a).wf=true)(hb:(Lit.int .i64 b).wf=true)(hc:(Lit.int .i64 c).wf=true):Tryz.prog.keyLits (d+2) 186 [.int .i64 a,.int .i64 b,.int .i64 c]=some [.int .i64 a,.int .i64 b,.int .i64 c]:=by
 have h:∀ x∈[a,b,c],Tryz.prog.keyLits (d+1) 3 [.int .i64 x]=some [.int .i64 x]:=fun x hx=>by
  simp at hx
  rcases hx with rfl | rfl | rfl <;> exact K6 (by assumption)
 have h0:=h a (by simp)
 have h1:=h b (by simp)
 have h2:=h c (by simp)
 rw [Program.keyLits]
 rotate_left
 ·exact 3
 ·exact 3
 ·exact Jr
 simp [N4,c3,List.range_succ,h0,h1,h2]
theorem cEa{a b c:Int}(ha:(Lit.int .i64 a).wf=true)(hb:(Lit.int .i64 b).wf=true)(hc:(Lit.int .i64 c).wf=true):∃ l,keyOf Tp 186 (k3V a b c)=some l:=by
 obtain ⟨d,hd⟩:∃ d,Tryz.prog.types.size+1=d+2:=⟨Tryz.prog.types.size-1,by have:=Nat.le_of_ble_eq_true K5;omega⟩
 unfold keyOf;rw [Jr];simp only [Iv,N5,Bool.and_self,if_true,hd];have:(k3V a b c).cells.toList=[.int .i64 a,.int .i64 b,.int .i64 c]:=rfl;rw [this,Ib ha hb hc];exact ⟨_,rfl⟩
theorem Jq{a:Int}(h : -1000000000≤a∧a≤1000000000):(Lit.int .i64 a).wf=true:=by
 have e1:IntKind.i64.min = -9223372036854775808:=rfl;have e2:IntKind.i64.max=9223372036854775807:=rfl;simp only [Lit.wf,e1,e2,Cj,decide_eq_true_eq];omega
end KV
end Go.Proofs
end
namespace Go.Proofs
namespace KV
open Tryz
section
variable {k:Int}{i base:Nat}

noncomputable abbrev bLf:Code:=sub (cd Tryz.f149) [1,1,0,1,0,0]
theorem cDv{r:List Cel}(h0:(r.length:Int)=0):FMM Tp 150 [(.p (.sl r.length ((r.map cE).flatten)))] [] (.p bM) []:=FMM.fi 0 gE func150 [bT] (gc (cP h0) gn)
theorem cDw{r:List Cel}(h0:(r.length:Int)≠0)(h1:0≤(r.length:Int)∧(r.length:Int)≤(r.length:Int)∧(r.length:Int)≤1000000)(h2:((r.map cE).flatten).length=r.length*2∧r.length=r.length):FMM Tp 150 [(.p (.sl r.length ((r.map cE).flatten)))] [] (.p (.sl r.length ((r.map cE).flatten))) []:=FMM.fi 0 ⟨[],[],[0],[]⟩ func150 [bF] (gc h2 (gc h1 (gc (bA h0) gn)))
theorem cDx{r t:List Cel}(h0:(0:Int)<(r.length:Int)):FV Tp 106 [(.p (.agg [(.sl r.length ((r.map cE).flatten)),(.sl t.length ((t.map cE).flatten))]))] base (.p (.sl r.length ((r.map cE).flatten))) []:=FV.fi func106 [bT] (g0 h0)
theorem cDy{r t:List Cel}(h0:(r.length:Int)≤0):FV Tp 106 [(.p (.agg [(.sl r.length ((r.map cE).flatten)),(.sl t.length ((t.map cE).flatten))]))] base (.p (.sl t.length ((t.map cE).flatten))) []:=FV.fi func106 [bF] (gc (aJ h0) gn)
abbrev iZ(k:Int)(r:List Cel):Value:=k3V (aM k r 0) (aM k r 1) (aM k r 2)
def bQ(k:Int)(L:List (List Cel)):List (Value × PV):=L.map fun r=>(iZ k r,aP r)
def qY(k:Int)(R:List (List Cel))(i:Nat)(me:List (Value × PV))(mk:Nat):St:=⟨fr 22 [(1,(.ptr 0 0)),(2,(.p (.v (.map none)))),(3,(.mp 1)),(8,(.p (.sl R.length (R.map aP)))),(9,(pI (R.length:Int))),(10,(pI (i:Int)))],[some (.box 26 [(pI k),(.p (.sl R.length (R.map aP)))]),some (.mp me mk)]⟩
theorem cDz{R:List (List Cel)}{Av:Nat}{Da:List (List Cel)}(A2:aE Tp 0 bLf (qY k R 0 [] 0) (.exit 0) (qY k R Av ((bQ k) Da) Da.length)):FMM Tp 149 [(.p (.agg [(aB k),(.sl R.length (R.map aP))]))] [] (.mp 0) [some (.mp ((bQ k) Da) Da.length)]:=FMM.fi 0 ⟨[],[1],[],[]⟩ func149 [A2.k 8 (gI [0,1,4,4,11,10] [0,1])] (gc A2.code gn)
theorem bDw{R m:List (List Cel)}{Ab:List Cel}{i':Nat}{m':List (List Cel)}(h0:(i:Int)<(R.length:Int))(h1:R[i]? = some Ab)(h2:aN k≤(Ab.length:Int))(h3:eO Tp 186 ((bQ k) m) (k3V (aM k Ab 0) (aM k Ab 1) (aM k Ab 2)))(h4:(iE ((bQ k) m) (k3V (aM k Ab 0) (aM k Ab 1) (aM k Ab 2)))=false)(h5:cq i)(Ai:i'=(i+1))(E9:(bQ k) m'=(((bQ k) m)++[((k3V (aM k Ab 0) (aM k Ab 1) (aM k Ab 2)),(.sl Ab.length ((Ab.map cE).flatten)))]))(Fa:m'.length=(m.length+1)):aA Tp 0 bLf (qY k R i ((bQ k) m) m.length) .normal (qY k R i' ((bQ k) m') m'.length):=by
 subst Ai;have k1:=fk 2 (eK k Ab h2) rfl;rw [E9,Fa];exact aA.fi (gI [0,1,4,4,11,10] [0,1]) [bT,.x (.sl Ab.length ((Ab.map cE).flatten)),k1.o,bF] (gc h5 (gc h4 (gc h3 (gc k1 (gc (atm aP h1) (gc (ixn aP h1) (g0 h0)))))))
theorem bDx{R m:List (List Cel)}(h0:(R.length:Int)≤(i:Int)):aA Tp 0 bLf (qY k R i ((bQ k) m) m.length) (.exit 0) (qY k R i ((bQ k) m) m.length):=aA.fi (gI [0,1,4,4,11,10] [0,1]) [bF] (gc (aJ h0) gn)
end
end KV
end Go.Proofs
