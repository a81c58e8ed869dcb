/- Parts of the proof of JCupJudged: laws of walks, contracts of functions, plain models. No condition. -/
import Derived.RangeFuncNested
import Derived.Sort.LoopGhostIn
import Derived.Lib.OwnBridge
import Derived.Shelf.Slices.Clone
import Derived.Shelf.Small.Bits
import Derived.Shelf.Small.Wraps
import Derived.Shelf.Strconv.Itoa0
import Derived.Shelf.Sort.Plain
import Derived.Shelf.Slices.Turned
import Derived.Ground.Names2Prog
import Derived.Shelf.Slices.CompactI
import Derived.Shelf.Slices.SearchI
import Derived.Shelf.Slices.Cells
import Derived.Shelf.Slices.In.SortNone
import Derived.Ground.SlgnProg
import Derived.Shelf.SlicesE.Clone
import Derived.Test.YtaghkcgipomdjaaGreatProg
import Derived.Sort.OwnSortedInts
import Derived.OneCell
import Derived.Shelf.SlicesE.DeleteFunc
import Derived.Ground.SlgfProg
import Derived.Test.YtaghkcgipomdjaaGreatPJCupJudgedC
set_option linter.unusedVariables false
set_option linter.unusedSimpArgs false
set_option maxRecDepth 100000
namespace Go.Proofs
namespace KV
open Tryz
section
variable {P:Program} {T:TT} {E:Env} {C C0:Cx} {M M0 M1:Mem} {w w0:World}

def bkN(all:List Nat)(j:Nat):Option Nat:=all[j]?
def sS(Ga:List Nat):List Nat→Mem→Option Upd
 | i::r,some o::m=>match mpO (bkN Ga) o with
  | some o'=>(sS Ga r m).map ((i,o') :: ·)
  | none=>none
 | [],[]=>some []
 | _,_=>none

theorem aIk{Ga:List Nat}:∀ {ids:List Nat} {m:Mem} {L:Upd},sS Ga ids m=some L→ids.Nodup →
  m.length=ids.length ∧
  ∀ (N:Mem),(∀ (p i:Nat) (o':AO),ids[p]? = some i→(bN (upds N L) i=some o'↔∃ o,m[p]? = some (some o)∧mpO (bkN Ga) o=some o')) ∧
   ∀ j,j∉ids→bN (upds N L) j=bN N j
 | [],[],L,h,_=>by
  unfold sS at h;cases h
  refine ⟨rfl,fun N=>⟨fun p i o' hp=>by simp at hp,fun _ _=>rfl⟩⟩
 | i::r,some o::m,L,h,hd=>by
  unfold sS at h
  split at h
  ·rename_i o' ho
   simp only [kT] at h
   obtain ⟨L',Kg,rfl⟩:=h;obtain ⟨Hn,Gn⟩:=List.nodup_cons.1 hd;obtain ⟨q1,q2⟩:=aIk (ids:=r) Kg Gn;refine ⟨by simpa using q1,fun N => ?_⟩
   obtain ⟨r1,r4⟩:=q2 (aX N i (some o'));refine ⟨fun p j o2 hp => ?_,fun j hj => ?_⟩
   ·cases p with
    | zero =>
     simp at hp;subst hp
     simp only [upds];rw [r4 i Hn,cO,if_pos rfl];constructor
     ·intro h;cases h;exact ⟨o,rfl,ho⟩
     ·rintro ⟨o3,h3,h4⟩
      simp at h3;subst h3
      rw [ho] at h4;exact h4
    | succ p =>
     simp only [upds];rw [List.getElem?_cons_succ] at hp
     rw [r1 p j o2 hp];rfl
   ·simp only [upds]
    rw [r4 j (fun e=>hj (B3 _ e)),cO,if_neg (fun e=>hj (by simp [e]))]
  ·cases h
 | [],_::_,L,h,_=>by unfold sS at h;cases h
 | _::_,[],L,h,_=>by unfold sS at h;cases h
 | _::_,none::_,L,h,_=>by unfold sS at h;cases h

theorem aDy{Ga:List Nat}:∀ {ids:List Nat} {m:Mem} {L:Upd},sS Ga ids m=some L→∀ (p:Nat) (o1:AO),m[p]? = some (some o1)→∃ o',mpO (bkN Ga) o1=some o'
 | [],[],L,h,p,o1,hp=>by simp at hp
 | i::r,some o::m,L,h,p,o1,hp=>by
  unfold sS at h
  split at h
  ·rename_i hx
   simp only [kT] at h
   obtain ⟨L',Kg,_⟩:=h;cases p with
   | zero=>simp at hp;subst hp;exact ⟨_,hx⟩
   | succ p=>exact aDy Kg p o1 (by simpa using hp)
  ·cases h
 | [],_::_,L,h,_,_,_=>by unfold sS at h;cases h
 | _::_,[],L,h,_,_,_=>by unfold sS at h;cases h
 | _::_,none::_,L,h,_,_,_=>by unfold sS at h;cases h

def Cx.backN(C C1:Cx)(all:List Nat):Cx :=
 {ι:=fun j=>match idx all j 0 with | some p=>C1.ι p | none=>C.ι j
  κ:=fun j=>match idx all j 0 with | some p=>C1.κ p | none=>C.κ j
  F:=C1.F }

theorem bOg{ids news:List Nat}{r y:AV}{L:Upd}{C1:Cx}{w':World}{u:Value}(hd:distinct 0 ids=true)(hda:distinct 0 (ids++news)=true)(hb:∀ i∈news,fO M i=true)
  (hs:rnM 0 ids (ids.map (at? M))=some M0) (hlv:∀ i∈ids,dU M i=true) (hU:sS (ids++news) (ids++news) M1=some L) (hy:mpA (bkN (ids++news)) r=some y)
  (hM:aP P C M w) (hF:Fr (C.rn 0 ids) M0 w C1 M1 w') (Bz:aP P C1 M1 w') (hr:Rep C1 M1 w' r u):Fr C M w (C.backN C1 (ids++news)) (upds M L) w'∧aP P (C.backN C1 (ids++news)) (upds M L) w'∧Rep (C.backN C1 (ids++news)) (upds M L) w' y u:=by
 obtain ⟨_,hnd⟩:=gV hd;obtain ⟨_,hna⟩:=gV hda;obtain ⟨B4,hmp,hsrc⟩:=pX (k:=0) hM hd hs;have hlen:M0.length=ids.length:=by have:=(aBo hs).1;simpa using this
 generalize hall:ids++news=all at *
 obtain ⟨hl1,hup⟩:=aIk hU hna;obtain ⟨u1,u4⟩:=hup M;have hL:=B4.le hF;have inA:∀ (p i:Nat),ids[p]? = some i→all[p]? = some i:=fun p i h=>by
  rw [← hall,aFx (Bg.1 h).1];exact h
 have memA:∀ i,i∈all↔i∈ids∨i∈news:=fun i=>by rw [← hall];simp
 have newF:∀ (p i:Nat),all[p]? = some i→i∉ids→fO M i=true:=fun p i h hn=>by
  rcases (memA i).1 (Br h) with h | h
  ·exact absurd h hn
  ·exact hb i h
 have oldP:∀ (p i:Nat),all[p]? = some i→i∈ids→ids[p]? = some i:=fun p i h hn=>by
  obtain ⟨q,hq,he⟩:=List.mem_iff_getElem.1 hn;have h2:ids[q]? = some i:=by rw [An hq,he]
  have e1:=pE hna 0 h;have e2:=pE hna 0 (inA q i h2);rw [e1] at e2
  have:p=q:=by simpa using e2
  rw [this];exact h2
 have rnp:∀ p i,ids[p]? = some i→rnI 0 ids i=some p:=fun p i h=>by
  have:=pE hnd 0 h;unfold rnI;rw [show Nat.blt i 0=false from rfl,this,gP]
 have Cr:∀ p i,ids[p]? = some i→∃ o o0,M[i]? = some (some o)∧o.live=true∧M0[p]? = some (some o0)∧o0.live=true∧(C.rn 0 ids).ι p=C.ι i∧(C.rn 0 ids).κ p=C.κ i:=fun p i hp=>by
  obtain ⟨o,h1,h2⟩:=cV (hlv i (Br hp));obtain ⟨o0,h3,h4⟩:=hmp.fw _ _ _ (rnp p i hp) h1;exact ⟨o,o0,h1,h2,h3,by rw [bM h4];exact h2,hmp.at_ _ _ (rnp p i hp)⟩
 have sh_of:∀ (p:Nat) (o0:AO),M0[p]? = some (some o0)→∃ i o,ids[p]? = some i∧M[i]? = some (some o)∧o.live=true∧o0.live=true∧(C.rn 0 ids).ι p=C.ι i:=fun p o0 hp=>by
  obtain ⟨hl,_⟩:=Bg.1 hp;have Jv:ids[p]? = some ids[p]:=An (by omega)
  obtain ⟨o,o1,h1,h2,h3,h4,h5,_⟩:=Cr p _ Jv;rw [hp] at h3;cases h3
  exact ⟨_,o,Jv,h1,h2,h4,h5⟩
 have apart:∀ (j:Nat) (o:AO) (b:Nat),j∉ids→M[j]? = some (some o)→o.live=true→C.ι j=some b→w'.heap[b]? = w.heap[b]? ∧ ¬ C1.F b∧∀ (p:Nat) (o1:AO),M1[p]? = some (some o1)→o1.live=true→C1.ι p≠some b:=fun j o b hj h1 h2 h3=>by
  have Bl:=hM.lt j o b h1 h2 h3;have Kh:∀ (p:Nat) (o0:AO),M0[p]? = some (some o0)→o0.live=true→(C.rn 0 ids).ι p≠some b:=fun p o0 hp _ he=>by
   obtain ⟨i,o2,q1,q2,q3,_,q4⟩:=sh_of p o0 hp;rw [q4] at he
   have:=hM.inj j i o o2 b h1 h2 q2 q3 h3 he;subst this;exact hj (Br q1)
  refine ⟨hF.keep b Bl Kh,fun hf => ?_,fun p o1 hp hl he => ?_⟩
  ·rcases hF.F2 b hf with q | q | ⟨p,o0,q1,q2,q3⟩
   ·exact hM.nF j o b h1 h2 h3 q
   ·omega
   ·exact Kh p o0 q1 q2 q3
  ·rcases hF.new p o1 b hp hl he with q | ⟨p0,o0,q1,q2,q3⟩
   ·omega
   ·exact Kh p0 o0 q1 q2 q3
 have ix:∀ j,(j∈all→∃ p,idx all j 0=some p∧all[p]? = some j)∧(j∉all→idx all j 0=none):=fun j=>by
  refine ⟨fun hj => ?_,fun hj => ?_⟩
  ·obtain ⟨p,hp,he⟩:=List.mem_iff_getElem.1 hj
   have:all[p]? = some j:=by rw [An hp,he]
   exact ⟨p,by simpa using pE hna 0 this,this⟩
  ·cases h1:idx all j 0 with
   | none=>rfl
   | some p =>
    obtain ⟨_,h2⟩:=uY _ _ _ _ h1;exact absurd (Br h2) hj
 have cls:∀ (j:Nat) (o':AO),(upds M L)[j]? = some (some o')→(∃ p o1,all[p]? = some j∧M1[p]? = some (some o1)∧mpO (bkN all) o1=some o'∧(C.backN C1 all).ι j=C1.ι p∧(C.backN C1 all).κ j=C1.κ p) ∨
   (j∉ids∧j∉all∧M[j]? = some (some o')∧(C.backN C1 all).ι j=C.ι j∧(C.backN C1 all).κ j=C.κ j):=fun j o' hj=>by
  rw [← bI] at hj
  by_cases hm:j∈all
  ·obtain ⟨p,Hp,Gj⟩:=(ix j).1 hm
   obtain ⟨o1,h1,h2⟩:=(u1 p j o' Gj).1 hj;exact .inl ⟨p,o1,Gj,h1,h2,by simp [Cx.backN,Hp],by simp [Cx.backN,Hp]⟩
  ·have hn:=(ix j).2 hm
   rw [u4 j hm] at hj
   exact .inr ⟨fun h=>hm ((memA j).2 (.inl h)),hm,bI.1 hj,by simp [Cx.backN,hn],by simp [Cx.backN,hn]⟩
 have Fw:Fr C M w (C.backN C1 all) (upds M L) w':=by
  refine ⟨hF.os,hF.tape,hF.out,hF.size,fun b Bl hn => ?_,fun i o ho => ?_,fun i o ho ty n cs hx => ?_,fun i o ho o' hx hl => ?_,fun j o b hj hl hjb => ?_,fun b hb=>hF.F1 b hb,fun b hb => ?_⟩
  ·exact hF.keep b Bl fun p o0 hp hl he=>by
    obtain ⟨i,o2,q1,q2,q3,_,q4⟩:=sh_of p o0 hp;rw [q4] at he
    exact hn i o2 q2 q3 he
  ·by_cases hm:i∈all
   ·obtain ⟨p,Hp,Gj⟩:=(ix i).1 hm
    have hmi:i∈ids:=Classical.byContradiction fun hni=>cG (newF p i Gj hni) o ho
    obtain ⟨_,o0,_,_,h3,h4,h5,h6⟩:=Cr p i (oldP p i Gj hmi);obtain ⟨⟨o1,q1⟩,q2,q3⟩:=hF.ids p o0 h3;refine ⟨?_,by simp only [Cx.backN,Hp];rw [q2,h5],by simp only [Cx.backN,Hp];rw [q3,h6]⟩
    obtain ⟨o',hq⟩:=aDy hU p o1 q1;exact ⟨o',bI.1 ((u1 p i o' Gj).2 ⟨o1,q1,hq⟩)⟩
   ·refine ⟨⟨o,bI.1 (by rw [u4 i hm];exact bI.2 ho)⟩,by simp [Cx.backN,(ix i).2 hm],by simp [Cx.backN,(ix i).2 hm]⟩
  ·rcases cls i _ hx with ⟨p,o1,q1,q2,q3,_⟩ | ⟨_,_,q3,_⟩
   ·have hmi:i∈ids:=Classical.byContradiction fun hni=>cG (newF p i q1 hni) o ho
    have q1:=oldP p i q1 hmi;rw [kM q3] at q2
    obtain ⟨o2,o0,h1,_,h3,_⟩:=Cr p i q1;obtain ⟨Be,h5⟩:=hF.row p o0 h3 _ _ _ q2;obtain ⟨o4,h6,h7⟩:=hmp.bk _ _ _ (rnp p i q1) h5;rw [kM h7] at h6
    exact ⟨Be,h6⟩
   ·exact ⟨cs,q3⟩
  ·rcases cls i _ hx with ⟨p,o1,q1,q2,q3,_⟩ | ⟨_,_,q3,_⟩
   ·have hmi:i∈ids:=Classical.byContradiction fun hni=>cG (newF p i q1 hni) o ho
    obtain ⟨o2,o0,h1,h2,h3,_⟩:=Cr p i (oldP p i q1 hmi);rw [ho] at h1;cases h1
    exact h2
   ·rw [ho] at q3;cases q3;exact hl
  ·have fin:∀ (p:Nat) (o1:AO),M1[p]? = some (some o1)→o1.live=true→C1.ι p=some b→w.heap.size≤b∨∃ (Gm:Nat) (o0:AO),M[Gm]? = some (some o0)∧o0.live=true∧C.ι Gm=some b:=fun p o1 h1 h2 h3=>by
    rcases hF.new p o1 b h1 h2 h3 with q | ⟨p0,o0,q1,q2,q3⟩
    ·exact .inl q
    ·obtain ⟨i,o2,r1,r2,r3,_,r4⟩:=sh_of p0 o0 q1
     rw [r4] at q3
     exact .inr ⟨i,o2,r2,r3,q3⟩
   rcases cls j _ hj with ⟨p,o1,q1,q2,q3,q4,_⟩ | ⟨_,_,q3,q4,_⟩
   ·rw [q4] at hjb
    exact fin p o1 q2 (by rw [← bM q3];exact hl) hjb
   ·rw [q4] at hjb
    exact .inr ⟨j,o,q3,hl,hjb⟩
  ·rcases hF.F2 b hb with q | q | ⟨p,o0,q1,q2,q3⟩
   ·exact .inl q
   ·exact .inr (.inl q)
   ·obtain ⟨i,o2,r1,r2,r3,_,r4⟩:=sh_of p o0 q1
    rw [r4] at q3
    exact .inr (.inr ⟨i,o2,r2,r3,q3⟩)
 have G0:=hM.le Fw;have hbk:bCc (bkN all) C1 (C.backN C1 all) M1 (upds M L):=by
  refine ⟨fun i j o' hij hj=>(u1 i j o' hij).1 (bI.2 hj),fun i j o hij hi => ?_,fun i j hij => ?_,fun _ h=>h⟩
  ·obtain ⟨o',hq⟩:=aDy hU i o hi
   exact ⟨o',bI.1 ((u1 i j o' hij).2 ⟨o,hi,hq⟩),hq⟩
  ·have:=pE hna 0 hij
   rw [gP] at this
   simp [Cx.backN,this]
 refine ⟨Fw,⟨fun j ty n cs h => ?_,fun j ty cs h => ?_,fun j es cl h => ?_,fun j j' o1 o2 b q1 l1 q2 l2 e1 e2 => ?_,fun j o b h hl hb => ?_,Bz.Fs,fun j o b h hl hb => ?_⟩,rU hbk hr hy⟩
 ·rcases cls j _ h with ⟨p,o1,q1,q2,q3,q4,q5⟩ | ⟨q1,_,q3,q4,q5⟩
  ·rw [kM q3] at q2
   rw [q4,q5];exact Bz.row _ _ _ _ q2
  ·rw [q4,q5]
   rcases hM.row _ _ _ _ q3 with q | ⟨b,arr,inf,p0,p1,p2,p3,p4,p5,p6,p7,p8⟩
   ·exact .inl q
   ·exact .inr ⟨b,arr,inf,p0,by rw [(apart j _ b q1 q3 rfl p0).1];exact p1,p2,p3,p4,p5,p6,fun i hi=>(p7 i hi).mono G0.F G0.fz,p8⟩
 ·rcases cls j _ h with ⟨p,o1,q1,q2,q3,q4,q5⟩ | ⟨q1,_,q3,q4,q5⟩
  ·cases o1 with
   | box Cc l =>
    simp only [mpO,kT] at q3
    obtain ⟨l',De,e⟩:=q3;cases e;obtain ⟨b,arr,p0,p1,p2,p3,p4⟩:=Bz.box _ _ _ q2;obtain ⟨n1,n2⟩:=fF hbk (w:=w') (us:=fun j=>arr.getD j undef) p3 De
    exact ⟨b,arr,by rw [q4];exact p0,p1,by omega,n2,fun j hj=>p4 j (by omega)⟩
   | row=>simp [mpO] at q3
   | mp=>simp [mpO] at q3
   | pk=>simp [mpO] at q3
   | dead=>simp [mpO] at q3
  ·obtain ⟨b,arr,p0,p1,p2,p3,p4⟩:=hM.box _ _ _ q3
   exact ⟨b,arr,by rw [q4];exact p0,by rw [(apart j _ b q1 q3 rfl p0).1];exact p1,p2,fun i hi=>(p3 i hi).mono G0,p4⟩
 ·rcases cls j _ h with ⟨p,o1,q1,q2,q3,q4,q5⟩ | ⟨q1,_,q3,q4,q5⟩
  ·cases o1 with
   | mp Bn B5 =>
    simp only [mpO,Option.some.injEq] at q3
    cases q3;obtain ⟨b,arr,p0,p1,p2,p3⟩:=Bz.mp _ _ _ q2;refine ⟨b,arr,by rw [q4];exact p0,p1,p2,fun j hj => ?_⟩
    obtain ⟨en,s1,s2,s3,s4⟩:=p3 j hj;exact ⟨en,s1,s2,s3,s4.mono hbk.F (fun _ _=>rfl)⟩
   | row=>simp [mpO] at q3
   | box=>simp [mpO] at q3
   | pk=>simp [mpO] at q3
   | dead=>simp [mpO] at q3
  ·obtain ⟨b,arr,p0,p1,p2,p3⟩:=hM.mp _ _ _ q3
   refine ⟨b,arr,by rw [q4];exact p0,by rw [(apart j _ b q1 q3 rfl p0).1];exact p1,p2,fun i hi => ?_⟩
   obtain ⟨en,s1,s2,s3,s4⟩:=p3 i hi;exact ⟨en,s1,s2,s3,s4.mono G0.F G0.fz⟩
 ·rcases cls j _ q1 with ⟨p,a1,r1,r2,r3,r4,_⟩ | ⟨r1,rb,r3,r4,_⟩ <;> rcases cls j' _ q2 with ⟨p',a2,t1,t2,t3,t4,_⟩ | ⟨t1,tb,t3,t4,_⟩
  all_goals (rw [r4] at e1;rw [t4] at e2)
  ·have:=Bz.inj p p' a1 a2 b r2 (by rw [← bM r3];exact l1) t2 (by rw [← bM t3];exact l2) e1 e2
   subst this;rw [r1] at t1;cases t1;rfl
  ·exact absurd e1 ((apart j' o2 b t1 t3 l2 e2).2.2 p a1 r2 (by rw [← bM r3];exact l1))
  ·exact absurd e2 ((apart j o1 b r1 r3 l1 e1).2.2 p' a2 t2 (by rw [← bM t3];exact l2))
  ·exact hM.inj j j' o1 o2 b r3 l1 t3 l2 e1 e2
 ·rcases cls j _ h with ⟨p,o1,q1,q2,q3,q4,q5⟩ | ⟨q1,_,q3,q4,q5⟩
  ·rw [q4] at hb
   exact Bz.nF _ _ b q2 (by rw [← bM q3];exact hl) hb
  ·rw [q4] at hb
   exact (apart j o b q1 q3 hl hb).2.1
 ·rcases cls j _ h with ⟨p,o1,q1,q2,q3,q4,q5⟩ | ⟨q1,_,q3,q4,q5⟩
  ·rw [q4] at hb
   exact Bz.lt _ _ b q2 (by rw [← bM q3];exact hl) hb
  ·rw [q4] at hb
   exact fK (hM.lt j o b q3 hl hb) hF.size

def aVv(ids news:List Nat)(args:List AV)(bs:Upd)(M1:Mem)(r:AV):Option (List AV × Mem × AV × Upd):=match distinct 0 ids && distinct 0 (ids++news) && ids.all (dU (upds [] bs)) with
 | true=>match rnM 0 ids (ids.map (at? (upds [] bs))) with
  | some M0=>match rnL 0 ids args with
   | some Bd=>match sS (ids++news) (ids++news) M1 with
    | some L=>match mpA (bkN (ids++news)) r with
     | some y=>some (Bd,M0,y,L)
     | none=>none
    | none=>none
   | none=>none
  | none=>none
 | false=>none
theorem FMM.fcN{f base k:Nat}(hk:Nat.ble k 8=true){ids:List Nat}{args Bd:List AV}{bs:Upd}{r y:AV}{L:Upd}(h:FMM P f Bd M0 r M1)(hs:aVv ids ((List.range k).map (base + ·)) args bs M1 r=some (Bd,M0,y,L)):FC P f args bs base y L:=fun M hb hf Iu=>by
 unfold aVv at hs
 have hsub:aSa (upds [] bs) M:=fun id o ho=>by
  rcases pV bs [] id o ho with h5 | h5
  ·exact hb _ h5
  ·simp [bN] at h5
 split at hs
 ·rename_i hd
  rw [Bw,Bw,fL] at hd
  obtain ⟨⟨Hn,Gn⟩,Lg⟩:=hd;have hlv:∀ i∈ids,∃ o,bN (upds [] bs) i=some o∧bN M i=some o∧o.live=true:=fun i hi=>by
   obtain ⟨o,h1,h2⟩:=cV (Lg i hi);exact ⟨o,bI.2 h1,hsub _ _ (bI.2 h1),h2⟩
  split at hs
  ·rename_i h1
   split at hs
   ·rename_i h2
    split at hs
    ·rename_i h3
     split at hs
     ·rename_i h4
      cases hs;have he:ids.map (at? M)=ids.map (at? (upds [] bs)):=xX fun i hi=>by
       obtain ⟨o,q1,q2,_⟩:=hlv i hi;unfold at?
       rw [q1,q2]
      intro C w us hus hM n;have Im:rnM 0 ids (ids.map (at? M))=some M0:=by rw [he];exact h1
      obtain ⟨B4,hmp,_⟩:=pX (k:=0) hM Hn Im;refine (h (C.rn 0 ids) w us (aKp hmp hus h2) B4 n).mono ?_;rintro e w' ⟨u,rfl,C1,hF,Bz,hr⟩;exact ⟨u,rfl,C.backN C1 (ids++(List.range k).map (base + ·)),bOg Hn Gn (fun i hi=>by
       obtain ⟨j,hj,rfl⟩:=Bi.1 hi;have hj:=qT.1 hj;have hk:=Nat.le_of_ble_eq_true hk;exact Iu j (by omega)) Im (fun i hi=>by
       obtain ⟨o,_,q2,q3⟩:=hlv i hi;exact iI (bI.1 q2) q3) h3 h4 hM hF Bz hr⟩
     ·cases hs
    ·cases hs
   ·cases hs
  ·cases hs
 ·cases hs
def qF(ids:List Nat)(base:Nat):=bkN (ids++(List.range 7).map (base+·))
def qN(ids:List Nat)(base:Nat)(x:AV):AV:=(mpA (qF ids base) x).getD .any
theorem mN(ids:List Nat)(base:Nat){P:Program}{f:Nat}{Bd:List AV}{M0 M1:Mem}{r:AV}(h:FMM P f Bd M0 r M1)(hs:aVv ids ((List.range 7).map (base+·)) (Bd.map (qN ids base)) (qS ids (qF ids base) (Bd.map (qN ids base)) M0) M1 r=some (Bd,M0,qN ids base r,(sS (ids++(List.range 7).map (base+·)) (ids++(List.range 7).map (base+·)) M1).getD []):=by kernel_rfl):FC P f (Bd.map (qN ids base)) (qS ids (qF ids base) (Bd.map (qN ids base)) M0) base (qN ids base r) ((sS (ids++(List.range 7).map (base+·)) (ids++(List.range 7).map (base+·)) M1).getD []):=FMM.fcN (k:=7) rfl h hs
end
section
variable {b0 out A8 Ew G5:Bool}{a b m r0 s0 s1 x0 x1 x2 x3 x4 x5 bib tot A4 Dh Aa Ad Af Ae Ag D7:Int}{T t T1 t' Db T107 T109:Lqb}{l:List Int}{i i' Kr base:Nat}{ov:PV}
variable {dl:Int}{sk dc:Lqq}

noncomputable abbrev jN:Code:=sub (cd Tryz.f95) [1,1,0,1,0,0]
theorem bNc:0≤(0:Int)∧(0:Int)<5:=by first | decide | simp
theorem bNd:0≤(1:Int)∧(1:Int)<5:=by first | decide | simp
theorem bNe:0≤(2:Int)∧(2:Int)<5:=by first | decide | simp
theorem bNf:0≤(3:Int)∧(3:Int)<5:=by first | decide | simp
theorem bNg:0≤(4:Int)∧(4:Int)<5:=by first | decide | simp
abbrev aAl(dl:Int)(sk dc:Lqq)(ov:PV)(x:List Int)(bib:Int)(b:Bool)(T T2:Lqb):Prop:=FMM Tp 164 [cBj,.p (.agg (x.map aA)),.p (aA bib)] (pH dl sk dc ov T) (pB b) (pH dl sk dc ov T2)
abbrev cAs(dl:Int)(sk dc:Lqq)(ov:PV)(s:List Int)(n:Int)(b:Bool)(T T2:Lqb):Prop:=FMM Tp 95 [aPf dl sk dc,.p (.agg (s.map aA)),cBj] (pH dl sk dc ov T) (.tup [.p (aA n),.p (blP b)]) (pH dl sk dc ov T2)
section
variable(h0:(decide (x1≤4))=true)(h1:x3=bib)(h2:wD dl sk dc ov [x0,x1,x2,x3,x4,x5] b0 T T1)
include h0 h1 h2
theorem cAt(h3:b0=true)(h4:x1≠4):FMM Tp 164 [(.agg [(.fn 100 [] [(.ptr 4 0),(.ptr 5 0),(.ptr 0 0),(.ptr 2 0)]),(.fn 102 [] [(.ptr 6 0)]),(.fn 103 [] [(.ptr 2 0),(.ptr 1 0)]),(.fn 106 [] [(.ptr 2 0)]),(.fn 104 [] [(.ptr 6 0)])]),(.p (dcE x0 x1 x2 x3 x4 x5)),(pI bib)] [some (.box 106 [(.rp (aU dl sk dc) 0)]),some (.box 31 [(.p ov)]),some (.box 119 [(.fn 100 [] [(.ptr 4 0),(.ptr 5 0),(.ptr 0 0),(.ptr 2 0)]),(.fn 102 [] [(.ptr 6 0)]),(.fn 103 [] [(.ptr 2 0),(.ptr 1 0)]),(.fn 106 [] [(.ptr 2 0)]),(.fn 104 [] [(.ptr 6 0)])]),some (.mp (aK T) T.length),some (.box 183 [(.mp 3)]),some (.box 115 [(.fn 98 [(.rp (aU dl sk dc) 0)] [])]),some (.box 185 [(.fn 99 [] [(.ptr 0 0),(.ptr 2 0)])])] (pB true) [some (.box 106 [(.rp (aU dl sk dc) 0)]),some (.box 31 [(.p ov)]),some (.box 119 [(.fn 100 [] [(.ptr 4 0),(.ptr 5 0),(.ptr 0 0),(.ptr 2 0)]),(.fn 102 [] [(.ptr 6 0)]),(.fn 103 [] [(.ptr 2 0),(.ptr 1 0)]),(.fn 106 [] [(.ptr 2 0)]),(.fn 104 [] [(.ptr 6 0)])]),some (.mp (aK T1) T1.length),some (.box 183 [(.mp 3)]),some (.box 115 [(.fn 98 [(.rp (aU dl sk dc) 0)] [])]),some (.box 185 [(.fn 99 [] [(.ptr 0 0),(.ptr 2 0)])])]:=have k1:=fk 9 (eM x1) rfl;have k2:=mq cn 9 h2;FMM.fi 7 gE func164 ([k1.o]++rT 9++[k2.o]++rT 12) (gc h3 (gc (gY h4) (gc h3 (Bf (gY h4) (Bf h3 (gc (cF h1) (gc k2 (Bf (cF h1) (B7 h0 (gc k1 gn))))))))))
theorem cAu{b2:Bool}{T3:Lqb}(h3:b0=true)(h4:x1=4)(h5:bUe dl sk dc ov [x0,x1,x2,x3,x4,x5] b2 T1 T3):FMM Tp 164 [(.agg [(.fn 100 [] [(.ptr 4 0),(.ptr 5 0),(.ptr 0 0),(.ptr 2 0)]),(.fn 102 [] [(.ptr 6 0)]),(.fn 103 [] [(.ptr 2 0),(.ptr 1 0)]),(.fn 106 [] [(.ptr 2 0)]),(.fn 104 [] [(.ptr 6 0)])]),(.p (dcE x0 x1 x2 x3 x4 x5)),(pI bib)] [some (.box 106 [(.rp (aU dl sk dc) 0)]),some (.box 31 [(.p ov)]),some (.box 119 [(.fn 100 [] [(.ptr 4 0),(.ptr 5 0),(.ptr 0 0),(.ptr 2 0)]),(.fn 102 [] [(.ptr 6 0)]),(.fn 103 [] [(.ptr 2 0),(.ptr 1 0)]),(.fn 106 [] [(.ptr 2 0)]),(.fn 104 [] [(.ptr 6 0)])]),some (.mp (aK T) T.length),some (.box 183 [(.mp 3)]),some (.box 115 [(.fn 98 [(.rp (aU dl sk dc) 0)] [])]),some (.box 185 [(.fn 99 [] [(.ptr 0 0),(.ptr 2 0)])])] (pB b2) [some (.box 106 [(.rp (aU dl sk dc) 0)]),some (.box 31 [(.p ov)]),some (.box 119 [(.fn 100 [] [(.ptr 4 0),(.ptr 5 0),(.ptr 0 0),(.ptr 2 0)]),(.fn 102 [] [(.ptr 6 0)]),(.fn 103 [] [(.ptr 2 0),(.ptr 1 0)]),(.fn 106 [] [(.ptr 2 0)]),(.fn 104 [] [(.ptr 6 0)])]),some (.mp (aK T3) T3.length),some (.box 183 [(.mp 3)]),some (.box 115 [(.fn 98 [(.rp (aU dl sk dc) 0)] [])]),some (.box 185 [(.fn 99 [] [(.ptr 0 0),(.ptr 2 0)])])]:=have k1:=fk 9 (eM x1) rfl;have k2:=mq cn 9 h2;have k3:=mq cn 9 h5;FMM.fi 7 gE func164 ([k1.o]++rT 9++[k2.o]++rT 5++[bF,bF,bF,bF,k3.o,bT,bF,bT]) (gc h3 (gc (cR h4) (gc h3 (gc k3 (Bf (cR h4) (Bf h3 (gc (cF h1) (gc k2 (Bf (cF h1) (B7 h0 (gc k1 gn)))))))))))
theorem cAv(h3:b0=false):FMM Tp 164 [(.agg [(.fn 100 [] [(.ptr 4 0),(.ptr 5 0),(.ptr 0 0),(.ptr 2 0)]),(.fn 102 [] [(.ptr 6 0)]),(.fn 103 [] [(.ptr 2 0),(.ptr 1 0)]),(.fn 106 [] [(.ptr 2 0)]),(.fn 104 [] [(.ptr 6 0)])]),(.p (dcE x0 x1 x2 x3 x4 x5)),(pI bib)] [some (.box 106 [(.rp (aU dl sk dc) 0)]),some (.box 31 [(.p ov)]),some (.box 119 [(.fn 100 [] [(.ptr 4 0),(.ptr 5 0),(.ptr 0 0),(.ptr 2 0)]),(.fn 102 [] [(.ptr 6 0)]),(.fn 103 [] [(.ptr 2 0),(.ptr 1 0)]),(.fn 106 [] [(.ptr 2 0)]),(.fn 104 [] [(.ptr 6 0)])]),some (.mp (aK T) T.length),some (.box 183 [(.mp 3)]),some (.box 115 [(.fn 98 [(.rp (aU dl sk dc) 0)] [])]),some (.box 185 [(.fn 99 [] [(.ptr 0 0),(.ptr 2 0)])])] (pB false) [some (.box 106 [(.rp (aU dl sk dc) 0)]),some (.box 31 [(.p ov)]),some (.box 119 [(.fn 100 [] [(.ptr 4 0),(.ptr 5 0),(.ptr 0 0),(.ptr 2 0)]),(.fn 102 [] [(.ptr 6 0)]),(.fn 103 [] [(.ptr 2 0),(.ptr 1 0)]),(.fn 106 [] [(.ptr 2 0)]),(.fn 104 [] [(.ptr 6 0)])]),some (.mp (aK T1) T1.length),some (.box 183 [(.mp 3)]),some (.box 115 [(.fn 98 [(.rp (aU dl sk dc) 0)] [])]),some (.box 185 [(.fn 99 [] [(.ptr 0 0),(.ptr 2 0)])])]:=have k1:=fk 9 (eM x1) rfl;have k2:=mq cn 9 h2;FMM.fi 7 gE func164 ([k1.o]++rT 9++[k2.o,bT]++rF 6) (Ho h3 (gc (cF h1) (gc k2 (Bf (cF h1) (B7 h0 (gc k1 gn))))))
end
theorem cAw(h0:(decide (x1≤4))=true)(h1:x3≠bib):FMM Tp 164 [(.agg [(.fn 100 [] [(.ptr 4 0),(.ptr 5 0),(.ptr 0 0),(.ptr 2 0)]),(.fn 102 [] [(.ptr 6 0)]),(.fn 103 [] [(.ptr 2 0),(.ptr 1 0)]),(.fn 106 [] [(.ptr 2 0)]),(.fn 104 [] [(.ptr 6 0)])]),(.p (dcE x0 x1 x2 x3 x4 x5)),(pI bib)] [some (.box 106 [(.rp (aU dl sk dc) 0)]),some (.box 31 [(.p ov)]),some (.box 119 [(.fn 100 [] [(.ptr 4 0),(.ptr 5 0),(.ptr 0 0),(.ptr 2 0)]),(.fn 102 [] [(.ptr 6 0)]),(.fn 103 [] [(.ptr 2 0),(.ptr 1 0)]),(.fn 106 [] [(.ptr 2 0)]),(.fn 104 [] [(.ptr 6 0)])]),some (.mp (aK T) T.length),some (.box 183 [(.mp 3)]),some (.box 115 [(.fn 98 [(.rp (aU dl sk dc) 0)] [])]),some (.box 185 [(.fn 99 [] [(.ptr 0 0),(.ptr 2 0)])])] (pB false) [some (.box 106 [(.rp (aU dl sk dc) 0)]),some (.box 31 [(.p ov)]),some (.box 119 [(.fn 100 [] [(.ptr 4 0),(.ptr 5 0),(.ptr 0 0),(.ptr 2 0)]),(.fn 102 [] [(.ptr 6 0)]),(.fn 103 [] [(.ptr 2 0),(.ptr 1 0)]),(.fn 106 [] [(.ptr 2 0)]),(.fn 104 [] [(.ptr 6 0)])]),some (.mp (aK T) T.length),some (.box 183 [(.mp 3)]),some (.box 115 [(.fn 98 [(.rp (aU dl sk dc) 0)] [])]),some (.box 185 [(.fn 99 [] [(.ptr 0 0),(.ptr 2 0)])])]:=have k1:=fk 9 (eM x1) rfl;FMM.fi 7 gE func164 ([k1.o]++rT 5++rF 5) (B7 (bK h1) (B7 h0 (gc k1 gn)))
theorem cAx(h0:(decide (x1≤4))=false):FMM Tp 164 [(.agg [(.fn 100 [] [(.ptr 4 0),(.ptr 5 0),(.ptr 0 0),(.ptr 2 0)]),(.fn 102 [] [(.ptr 6 0)]),(.fn 103 [] [(.ptr 2 0),(.ptr 1 0)]),(.fn 106 [] [(.ptr 2 0)]),(.fn 104 [] [(.ptr 6 0)])]),(.p (dcE x0 x1 x2 x3 x4 x5)),(pI bib)] [some (.box 106 [(.rp (aU dl sk dc) 0)]),some (.box 31 [(.p ov)]),some (.box 119 [(.fn 100 [] [(.ptr 4 0),(.ptr 5 0),(.ptr 0 0),(.ptr 2 0)]),(.fn 102 [] [(.ptr 6 0)]),(.fn 103 [] [(.ptr 2 0),(.ptr 1 0)]),(.fn 106 [] [(.ptr 2 0)]),(.fn 104 [] [(.ptr 6 0)])]),some (.mp (aK T) T.length),some (.box 183 [(.mp 3)]),some (.box 115 [(.fn 98 [(.rp (aU dl sk dc) 0)] [])]),some (.box 185 [(.fn 99 [] [(.ptr 0 0),(.ptr 2 0)])])] (pB false) [some (.box 106 [(.rp (aU dl sk dc) 0)]),some (.box 31 [(.p ov)]),some (.box 119 [(.fn 100 [] [(.ptr 4 0),(.ptr 5 0),(.ptr 0 0),(.ptr 2 0)]),(.fn 102 [] [(.ptr 6 0)]),(.fn 103 [] [(.ptr 2 0),(.ptr 1 0)]),(.fn 106 [] [(.ptr 2 0)]),(.fn 104 [] [(.ptr 6 0)])]),some (.mp (aK T) T.length),some (.box 183 [(.mp 3)]),some (.box 115 [(.fn 98 [(.rp (aU dl sk dc) 0)] [])]),some (.box 185 [(.fn 99 [] [(.ptr 0 0),(.ptr 2 0)])])]:=have k1:=fk 9 (eM x1) rfl;FMM.fi 7 gE func164 ([k1.o]++rF 5) (B7 h0 (gc k1 gn))
theorem cAy(h0:inR (a+b))(Ak:r0=(a+b)):FV Tp 210 [(pI a),(pI b)] base (pI r0) []:=by
 subst Ak;exact FV.fi func210 [] (gc h0 gn)
theorem cAz(h0:inR (a-b))(Ak:r0=(a-b)):FV Tp 211 [(pI a),(pI b)] base (pI r0) []:=by
 subst Ak;exact FV.fi func211 [] (gc h0 gn)
theorem cBa(h0:inR ((1200:Int)*b))(h1:inR (a+((1200:Int)*b)))(Ak:r0=(a+((1200:Int)*b))):FV Tp 212 [(pI a),(pI b)] base (pI r0) []:=by
 subst Ak;exact FV.fi func212 [] (gc h1 (gc h0 gn))
theorem cBb:FV Tp 213 [(pI a),(pI b)] base (pI a) []:=FV.fi func213 [] gn
theorem aKy(a b:Int)(h:inR (a+b)){base:Nat}:FV Tp 210 [.p (aA a),.p (aA b)] base (pI (a+b)) []:=cAy h rfl
theorem bNh(a b:Int)(h:inR (a-b)){base:Nat}:FV Tp 211 [.p (aA a),.p (aA b)] base (pI (a-b)) []:=cAz h rfl
theorem bNi(a b:Int)(h:inR (1200*b)∧inR (a+1200*b)){base:Nat}:FV Tp 212 [.p (aA a),.p (aA b)] base (pI (a+1200*b)) []:=cBa h.1 h.2 rfl
theorem bNj(a b:Int){base:Nat}:FV Tp 213 [.p (aA a),.p (aA b)] base (pI a) []:=cBb
theorem nJ:FV Tp 165 [] base (.agg [(.fn 210 [] []),(.fn 211 [] []),(.fn 212 [] []),(.fn 213 [] []),(.fn 210 [] [])]) []:=FV.fi func165 [] gn
def rD(l:List Int)(m:Int)(i:Nat):St:=⟨fr 18 [(0,(pI m)),(4,(pI 0)),(7,(.p (aC l))),(8,(pI (l.length:Int))),(9,(pI (i:Int)))],[]⟩
theorem cBc{Rh:Int}{Ij:Nat}(hl0:aE Tp 0 (sub (cd Tryz.f159) db) (rD l a 0) (.exit 0) (rD l Rh Ij)):FV Tp 159 [(pI a),(.p (aC l))] base (pI Rh) []:=FV.fi func159 [hl0.k 6 (gZ [1,3,5,2,10,7])] (gc hl0.code gn)
theorem bFd{Ac m':Int}(h0:(i:Int)<(l.length:Int))(h1:l[i]? = some Ac)(h2:di i)(Pk:m'=(if Ac > m then Ac else m))(Ai:i'=(i+1)):aB Tp 0 (sub (cd Tryz.f159) db) (rD l m i) .normal (rD l m' i'):=by
 subst Pk Ai;exact aB.fi (gZ [1,3,5,2,10,7]) [bT,.x (aA Ac)] (gc h2 (gc (atm aA h1) (gc (ixn aA h1) (g0 h0))))
theorem bFe(h0:(l.length:Int)≤(i:Int)):aB Tp 0 (sub (cd Tryz.f159) db) (rD l m i) (.exit 0) (rD l m i):=aB.fi (gZ [1,3,5,2,10,7]) [bF] (gc (aQ h0) gn)
def bNk(a:Int)(l:List Int):Int:=l.foldl (fun m x=>if x > m then x else m) a
theorem cBd(a:Int)(l:List Int)(hl:l.length≤1000){base:Nat}:FV Tp 159 [.p (aA a),.p (aC l)] base (pI (bNk a l)) [] :=
 cBc (aE.range (P:=Tp) (k:=0) (e := .exit 0) (fun i m=>rD l m i) (fun m=>rD l m l.length) (fun m x=>if x > m then x else m) (fun _ _=>True) (by simp) l trivial
  (fun i x acc hx _=>⟨trivial,bFd (by have:=aY hx;omega) hx (aM (by have:=aY hx;omega)) rfl rfl⟩) (fun acc _=>bFe (by omega)))
def tot_S0(dl:Int)(sk dc:Lqq)(ov:PV)(s0 s1:Int)(out:Bool)(tot:Int)(i:Nat)(te:List (Value × PV))(tk:Nat):St:=⟨fr 54 [(4,(.ptr 7 0)),(5,(.ptr 8 0)),(6,(pI 0)),(7,(.kb false)),(8,(pB out)),(9,(pI tot)),(21,(.p (fS dc))),(22,(pI (dc.length:Int))),(23,(pI (i:Int)))],[some (.box 106 [(.rp (aU dl sk dc) 0)]),some (.box 31 [(.p ov)]),some (.box 119 [(.fn 100 [] [(.ptr 4 0),(.ptr 5 0),(.ptr 0 0),(.ptr 2 0)]),(.fn 102 [] [(.ptr 6 0)]),(.fn 103 [] [(.ptr 2 0),(.ptr 1 0)]),(.fn 106 [] [(.ptr 2 0)]),(.fn 104 [] [(.ptr 6 0)])]),some (.mp te tk),some (.box 183 [(.mp 3)]),some (.box 115 [(.fn 98 [(.rp (aU dl sk dc) 0)] [])]),some (.box 185 [(.fn 99 [] [(.ptr 0 0),(.ptr 2 0)])]),some (.box 80 [(pI s0),(pI s1)]),some (.box 119 [(.fn 100 [] [(.ptr 4 0),(.ptr 5 0),(.ptr 0 0),(.ptr 2 0)]),(.fn 102 [] [(.ptr 6 0)]),(.fn 103 [] [(.ptr 2 0),(.ptr 1 0)]),(.fn 106 [] [(.ptr 2 0)]),(.fn 104 [] [(.ptr 6 0)])])]⟩
section
variable(hl0:aE Tp 7 jN (tot_S0 dl sk dc ov s0 s1 (s1 == (-1)) s1 0 (aK T) T.length) (.exit 0) (tot_S0 dl sk dc ov s0 s1 G5 D7 Kr (aK Db) Db.length))
include hl0
theorem tot_p0(h1:G5=true):FMM Tp 95 [(.rp (aU dl sk dc) 0),(.p (.agg [(aA s0),(aA s1)])),(.agg [(.fn 100 [] [(.ptr 4 0),(.ptr 5 0),(.ptr 0 0),(.ptr 2 0)]),(.fn 102 [] [(.ptr 6 0)]),(.fn 103 [] [(.ptr 2 0),(.ptr 1 0)]),(.fn 106 [] [(.ptr 2 0)]),(.fn 104 [] [(.ptr 6 0)])])] [some (.box 106 [(.rp (aU dl sk dc) 0)]),some (.box 31 [(.p ov)]),some (.box 119 [(.fn 100 [] [(.ptr 4 0),(.ptr 5 0),(.ptr 0 0),(.ptr 2 0)]),(.fn 102 [] [(.ptr 6 0)]),(.fn 103 [] [(.ptr 2 0),(.ptr 1 0)]),(.fn 106 [] [(.ptr 2 0)]),(.fn 104 [] [(.ptr 6 0)])]),some (.mp (aK T) T.length),some (.box 183 [(.mp 3)]),some (.box 115 [(.fn 98 [(.rp (aU dl sk dc) 0)] [])]),some (.box 185 [(.fn 99 [] [(.ptr 0 0),(.ptr 2 0)])])] (.tup [(pI 0),(pB true)]) [some (.box 106 [(.rp (aU dl sk dc) 0)]),some (.box 31 [(.p ov)]),some (.box 119 [(.fn 100 [] [(.ptr 4 0),(.ptr 5 0),(.ptr 0 0),(.ptr 2 0)]),(.fn 102 [] [(.ptr 6 0)]),(.fn 103 [] [(.ptr 2 0),(.ptr 1 0)]),(.fn 106 [] [(.ptr 2 0)]),(.fn 104 [] [(.ptr 6 0)])]),some (.mp (aK Db) Db.length),some (.box 183 [(.mp 3)]),some (.box 115 [(.fn 98 [(.rp (aU dl sk dc) 0)] [])]),some (.box 185 [(.fn 99 [] [(.ptr 0 0),(.ptr 2 0)])])]:=FMM.fi 7 gE func95 [.x (fS dc),hl0.k 1 (gI ce [7,8]),bT] (gc h1 (gc hl0.code (gr (fS dc) gn)))
theorem cBe(h1:G5=false)(h2:([D7]:List Int).length≤1000)(Ak:r0=(bNk 0 ([D7]:List Int))):FMM Tp 95 [(.rp (aU dl sk dc) 0),(.p (.agg [(aA s0),(aA s1)])),(.agg [(.fn 100 [] [(.ptr 4 0),(.ptr 5 0),(.ptr 0 0),(.ptr 2 0)]),(.fn 102 [] [(.ptr 6 0)]),(.fn 103 [] [(.ptr 2 0),(.ptr 1 0)]),(.fn 106 [] [(.ptr 2 0)]),(.fn 104 [] [(.ptr 6 0)])])] [some (.box 106 [(.rp (aU dl sk dc) 0)]),some (.box 31 [(.p ov)]),some (.box 119 [(.fn 100 [] [(.ptr 4 0),(.ptr 5 0),(.ptr 0 0),(.ptr 2 0)]),(.fn 102 [] [(.ptr 6 0)]),(.fn 103 [] [(.ptr 2 0),(.ptr 1 0)]),(.fn 106 [] [(.ptr 2 0)]),(.fn 104 [] [(.ptr 6 0)])]),some (.mp (aK T) T.length),some (.box 183 [(.mp 3)]),some (.box 115 [(.fn 98 [(.rp (aU dl sk dc) 0)] [])]),some (.box 185 [(.fn 99 [] [(.ptr 0 0),(.ptr 2 0)])])] (.tup [(pI r0),(pB false)]) [some (.box 106 [(.rp (aU dl sk dc) 0)]),some (.box 31 [(.p ov)]),some (.box 119 [(.fn 100 [] [(.ptr 4 0),(.ptr 5 0),(.ptr 0 0),(.ptr 2 0)]),(.fn 102 [] [(.ptr 6 0)]),(.fn 103 [] [(.ptr 2 0),(.ptr 1 0)]),(.fn 106 [] [(.ptr 2 0)]),(.fn 104 [] [(.ptr 6 0)])]),some (.mp (aK Db) Db.length),some (.box 183 [(.mp 3)]),some (.box 115 [(.fn 98 [(.rp (aU dl sk dc) 0)] [])]),some (.box 185 [(.fn 99 [] [(.ptr 0 0),(.ptr 2 0)])])]:=by
 subst Ak;exact FMM.fi 7 gE func95 [.x (fS dc),hl0.k 1 (gI ce [7,8]),bF,.c (pI (bNk 0 ([D7]:List Int))) []] (gt (FC Tp 159 [(pI 0),(.own 9)] [(9,(.row 3 1 [(aA D7)]))] 10 (pI (bNk 0 ([D7]:List Int))) []) (fv (cBd 0 ([D7]:List Int) h2)) (gc h1 (gc hl0.code (gr (fS dc) gn))))
end
section
variable(h0:(i:Int)<(dc.length:Int))(h1:dc[i]? = some [Aa,(0:Int),Ad,Af,Ae,Ag])(h2:uni 6 dc)(h3:aAl dl sk dc ov [Aa,(0:Int),Ad,Af,Ae,Ag] s0 A8 t T107)(h4:A8=true)
include h0 h1 h2 h3 h4
theorem tot_L0_p0(h5:out=true)(h6:aAm dl sk dc ov [Aa,(0:Int),Ad,Af,Ae,Ag] A4 T107 T109)(h7:inR (tot+A4))(h8:di i)(Ca:Dh=(tot+A4))(Ai:i'=(i+1))(A6:aK t'=(aK T109))(A7:t'.length=T109.length):aB Tp 7 jN (tot_S0 dl sk dc ov s0 s1 out tot i (aK t) t.length) .normal (tot_S0 dl sk dc ov s0 s1 true Dh i' (aK t') t'.length):=by
 subst Ca Ai;have k1:=mq cn 10 h3;have k2:=fk 10 nJ rfl;have k3:=mq cn 18 h6;rw [A6,A7];exact aB.fi (gN ce [7,8] [(8,0)]) ([bT,.x (dcE Aa 0 Ad Af Ae Ag),k1.o]++rT 5++[k2.o,k3.o,.c (pI (tot+A4)) []]) (gc h8 (gc (fk 26 (aKy tot A4 h7) rfl) (gc k3 (gc bNc (gc k2 (Bf h5 (gc h4 (gc k1 (gfl h2 h1 (g0 h0))))))))))
theorem tot_L0_p1(h5:out=false)(h6:aAm dl sk dc ov [Aa,(0:Int),Ad,Af,Ae,Ag] A4 T107 T109)(h7:inR (tot+A4))(h8:di i)(Dx:Ew=((0:Int) == 3))(Ca:Dh=(tot+A4))(Ai:i'=(i+1))(A6:aK t'=(aK T109))(A7:t'.length=T109.length):aB Tp 7 jN (tot_S0 dl sk dc ov s0 s1 out tot i (aK t) t.length) .normal (tot_S0 dl sk dc ov s0 s1 Ew Dh i' (aK t') t'.length):=by
 subst Dx Ca Ai;have k1:=mq cn 10 h3;have k2:=fk 10 nJ rfl;have k3:=mq cn 18 h6;rw [A6,A7];exact aB.fi (gI ce [7,8]) [bT,.x (dcE Aa 0 Ad Af Ae Ag),k1.o,bT,bF,bF,bF,bF,k2.o,k3.o,.c (pI (tot+A4)) []] (gc h8 (gc (fk 26 (aKy tot A4 h7) rfl) (gc k3 (gc bNc (gc k2 (Bf h5 (gc h4 (gc k1 (gfl h2 h1 (g0 h0))))))))))
end
section
variable(h0:(i:Int)<(dc.length:Int))(h1:dc[i]? = some [Aa,(1:Int),Ad,Af,Ae,Ag])(h2:uni 6 dc)(h3:aAl dl sk dc ov [Aa,(1:Int),Ad,Af,Ae,Ag] s0 A8 t T107)(h4:A8=true)
include h0 h1 h2 h3 h4
theorem bFf(h5:out=true)(h6:aAm dl sk dc ov [Aa,(1:Int),Ad,Af,Ae,Ag] A4 T107 T109)(h7:inR (tot-A4))(h8:di i)(Ca:Dh=(tot-A4))(Ai:i'=(i+1))(A6:aK t'=(aK T109))(A7:t'.length=T109.length):aB Tp 7 jN (tot_S0 dl sk dc ov s0 s1 out tot i (aK t) t.length) .normal (tot_S0 dl sk dc ov s0 s1 true Dh i' (aK t') t'.length):=by
 subst Ca Ai;have k1:=mq cn 10 h3;have k2:=fk 10 nJ rfl;have k3:=mq cn 18 h6;rw [A6,A7];exact aB.fi (gN ce [7,8] [(8,0)]) ([bT,.x (dcE Aa 1 Ad Af Ae Ag),k1.o]++rT 5++[k2.o,k3.o,.c (pI (tot-A4)) []]) (gc h8 (gc (fk 26 (bNh tot A4 h7) rfl) (gc k3 (gc bNd (gc k2 (Bf h5 (gc h4 (gc k1 (gfl h2 h1 (g0 h0))))))))))
theorem bFg(h5:out=false)(h6:aAm dl sk dc ov [Aa,(1:Int),Ad,Af,Ae,Ag] A4 T107 T109)(h7:inR (tot-A4))(h8:di i)(Dx:Ew=((1:Int) == 3))(Ca:Dh=(tot-A4))(Ai:i'=(i+1))(A6:aK t'=(aK T109))(A7:t'.length=T109.length):aB Tp 7 jN (tot_S0 dl sk dc ov s0 s1 out tot i (aK t) t.length) .normal (tot_S0 dl sk dc ov s0 s1 Ew Dh i' (aK t') t'.length):=by
 subst Dx Ca Ai;have k1:=mq cn 10 h3;have k2:=fk 10 nJ rfl;have k3:=mq cn 18 h6;rw [A6,A7];exact aB.fi (gI ce [7,8]) [bT,.x (dcE Aa 1 Ad Af Ae Ag),k1.o,bT,bF,bF,bF,bF,k2.o,k3.o,.c (pI (tot-A4)) []] (gc h8 (gc (fk 26 (bNh tot A4 h7) rfl) (gc k3 (gc bNd (gc k2 (Bf h5 (gc h4 (gc k1 (gfl h2 h1 (g0 h0))))))))))
end
section
variable(h0:(i:Int)<(dc.length:Int))(h1:dc[i]? = some [Aa,(2:Int),Ad,Af,Ae,Ag])(h2:uni 6 dc)(h3:aAl dl sk dc ov [Aa,(2:Int),Ad,Af,Ae,Ag] s0 A8 t T107)(h4:A8=true)
include h0 h1 h2 h3 h4
theorem bFh(h5:out=true)(h6:aAm dl sk dc ov [Aa,(2:Int),Ad,Af,Ae,Ag] A4 T107 T109)(h7:inR (1200*A4)∧inR (tot+1200*A4))(h8:di i)(Ca:Dh=(tot+1200*A4))(Ai:i'=(i+1))(A6:aK t'=(aK T109))(A7:t'.length=T109.length):aB Tp 7 jN (tot_S0 dl sk dc ov s0 s1 out tot i (aK t) t.length) .normal (tot_S0 dl sk dc ov s0 s1 true Dh i' (aK t') t'.length):=by
 subst Ca Ai;have k1:=mq cn 10 h3;have k2:=fk 10 nJ rfl;have k3:=mq cn 18 h6;have k4:=fk 26 (bNi tot A4 h7) rfl;rw [A6,A7];exact aB.fi (gN ce [7,8] [(8,0)]) ([bT,.x (dcE Aa 2 Ad Af Ae Ag),k1.o]++rT 5++[k2.o,k3.o,k4.o]) (gc h8 (gc k4 (gc k3 (gc bNe (gc k2 (Bf h5 (gc h4 (gc k1 (gfl h2 h1 (g0 h0))))))))))
theorem bFi(h5:out=false)(h6:aAm dl sk dc ov [Aa,(2:Int),Ad,Af,Ae,Ag] A4 T107 T109)(h7:inR (1200*A4)∧inR (tot+1200*A4))(h8:di i)(Dx:Ew=((2:Int) == 3))(Ca:Dh=(tot+1200*A4))(Ai:i'=(i+1))(A6:aK t'=(aK T109))(A7:t'.length=T109.length):aB Tp 7 jN (tot_S0 dl sk dc ov s0 s1 out tot i (aK t) t.length) .normal (tot_S0 dl sk dc ov s0 s1 Ew Dh i' (aK t') t'.length):=by
 subst Dx Ca Ai;have k1:=mq cn 10 h3;have k2:=fk 10 nJ rfl;have k3:=mq cn 18 h6;have k4:=fk 26 (bNi tot A4 h7) rfl;rw [A6,A7];exact aB.fi (gI ce [7,8]) [bT,.x (dcE Aa 2 Ad Af Ae Ag),k1.o,bT,bF,bF,bF,bF,k2.o,k3.o,k4.o] (gc h8 (gc k4 (gc k3 (gc bNe (gc k2 (Bf h5 (gc h4 (gc k1 (gfl h2 h1 (g0 h0))))))))))
end
section
variable(h0:(i:Int)<(dc.length:Int))(h1:dc[i]? = some [Aa,(3:Int),Ad,Af,Ae,Ag])(h2:uni 6 dc)(h3:aAl dl sk dc ov [Aa,(3:Int),Ad,Af,Ae,Ag] s0 A8 t T107)(h4:A8=true)
include h0 h1 h2 h3 h4
theorem bFj(h5:out=true)(h6:aAm dl sk dc ov [Aa,(3:Int),Ad,Af,Ae,Ag] A4 T107 T109)(h7:di i)(Ai:i'=(i+1))(A6:aK t'=(aK T109))(A7:t'.length=T109.length):aB Tp 7 jN (tot_S0 dl sk dc ov s0 s1 out tot i (aK t) t.length) .normal (tot_S0 dl sk dc ov s0 s1 true tot i' (aK t') t'.length):=by
 subst Ai;have k1:=mq cn 10 h3;have k2:=fk 10 nJ rfl;have k3:=mq cn 18 h6;rw [A6,A7];exact aB.fi (gN ce [7,8] [(8,0)]) ([bT,.x (dcE Aa 3 Ad Af Ae Ag),k1.o]++rT 5++[k2.o,k3.o,.c (pI tot) []]) (gc h7 (gc (fk 26 (bNj tot A4) rfl) (gc k3 (gc bNf (gc k2 (Bf h5 (gc h4 (gc k1 (gfl h2 h1 (g0 h0))))))))))
theorem bFk(h5:out=false)(h6:aAm dl sk dc ov [Aa,(3:Int),Ad,Af,Ae,Ag] A4 T107 T109)(h7:di i)(Dx:Ew=((3:Int) == 3))(Ai:i'=(i+1))(A6:aK t'=(aK T109))(A7:t'.length=T109.length):aB Tp 7 jN (tot_S0 dl sk dc ov s0 s1 out tot i (aK t) t.length) .normal (tot_S0 dl sk dc ov s0 s1 Ew tot i' (aK t') t'.length):=by
 subst Dx Ai;have k1:=mq cn 10 h3;have k2:=fk 10 nJ rfl;have k3:=mq cn 18 h6;rw [A6,A7];exact aB.fi (gI ce [7,8]) [bT,.x (dcE Aa 3 Ad Af Ae Ag),k1.o,bT,bF,bF,bF,bF,k2.o,k3.o,.c (pI tot) []] (gc h7 (gc (fk 26 (bNj tot A4) rfl) (gc k3 (gc bNf (gc k2 (Bf h5 (gc h4 (gc k1 (gfl h2 h1 (g0 h0))))))))))
end
section
variable(h0:(i:Int)<(dc.length:Int))(h1:dc[i]? = some [Aa,(4:Int),Ad,Af,Ae,Ag])(h2:uni 6 dc)(h3:aAl dl sk dc ov [Aa,(4:Int),Ad,Af,Ae,Ag] s0 A8 t T107)(h4:A8=true)
include h0 h1 h2 h3 h4
theorem bFl(h5:out=true)(h6:aAm dl sk dc ov [Aa,(4:Int),Ad,Af,Ae,Ag] A4 T107 T109)(h7:inR (tot+A4))(h8:di i)(Ca:Dh=(tot+A4))(Ai:i'=(i+1))(A6:aK t'=(aK T109))(A7:t'.length=T109.length):aB Tp 7 jN (tot_S0 dl sk dc ov s0 s1 out tot i (aK t) t.length) .normal (tot_S0 dl sk dc ov s0 s1 true Dh i' (aK t') t'.length):=by
 subst Ca Ai;have k1:=mq cn 10 h3;have k2:=fk 10 nJ rfl;have k3:=mq cn 18 h6;rw [A6,A7];exact aB.fi (gN ce [7,8] [(8,0)]) ([bT,.x (dcE Aa 4 Ad Af Ae Ag),k1.o]++rT 5++[k2.o,k3.o,.c (pI (tot+A4)) []]) (gc h8 (gc (fk 26 (aKy tot A4 h7) rfl) (gc k3 (gc bNg (gc k2 (Bf h5 (gc h4 (gc k1 (gfl h2 h1 (g0 h0))))))))))
theorem bFm(h5:out=false)(h6:aAm dl sk dc ov [Aa,(4:Int),Ad,Af,Ae,Ag] A4 T107 T109)(h7:inR (tot+A4))(h8:di i)(Dx:Ew=((4:Int) == 3))(Ca:Dh=(tot+A4))(Ai:i'=(i+1))(A6:aK t'=(aK T109))(A7:t'.length=T109.length):aB Tp 7 jN (tot_S0 dl sk dc ov s0 s1 out tot i (aK t) t.length) .normal (tot_S0 dl sk dc ov s0 s1 Ew Dh i' (aK t') t'.length):=by
 subst Dx Ca Ai;have k1:=mq cn 10 h3;have k2:=fk 10 nJ rfl;have k3:=mq cn 18 h6;rw [A6,A7];exact aB.fi (gI ce [7,8]) [bT,.x (dcE Aa 4 Ad Af Ae Ag),k1.o,bT,bF,bF,bF,bF,k2.o,k3.o,.c (pI (tot+A4)) []] (gc h8 (gc (fk 26 (aKy tot A4 h7) rfl) (gc k3 (gc bNg (gc k2 (Bf h5 (gc h4 (gc k1 (gfl h2 h1 (g0 h0))))))))))
end
theorem aUz{Ab:Int}(h0:(i:Int)<(dc.length:Int))(h1:dc[i]? = some [Aa,Ab,Ad,Af,Ae,Ag])(h2:uni 6 dc)(h3:aAl dl sk dc ov [Aa,Ab,Ad,Af,Ae,Ag] s0 A8 t T107)(h4:A8=false)(h5:di i)(Ai:i'=(i+1))(A6:aK t'=(aK T107))(A7:t'.length=T107.length):aB Tp 7 jN (tot_S0 dl sk dc ov s0 s1 out tot i (aK t) t.length) .normal (tot_S0 dl sk dc ov s0 s1 out tot i' (aK t') t'.length):=by
 subst Ai;have k1:=mq cn 10 h3;rw [A6,A7];exact aB.fi (gI ce [7,8]) [bT,.x (dcE Aa Ab Ad Af Ae Ag),k1.o,bF] (gc h5 (gc h4 (gc k1 (gfl h2 h1 (g0 h0)))))
theorem aVa(h0:(dc.length:Int)≤(i:Int)):aB Tp 7 jN (tot_S0 dl sk dc ov s0 s1 out tot i (aK t) t.length) (.exit 0) (tot_S0 dl sk dc ov s0 s1 out tot i (aK t) t.length):=aB.fi (gI ce [7,8]) [bF] (gc (aQ h0) gn)
end
section
def aUy(dl:Int)(oc:List Int)(dc:Lqq)(bib:Int)(x:List Int):Bool:=decide (dK x≤4) && (dB x == bib && (dM dl oc dc x && (!(dK x == 4) || aGc dl oc dc x)))
def byI(k t m:Int):Int:=if k=1 then t-m else if k=2 then t+1200*m else if k=3 then t else t+m
def aGb(dl:Int)(oc:List Int)(dc:Lqq)(bib:Int)(acc:Bool × Int)(x:List Int):Bool × Int:=if aUy dl oc dc bib x then (acc.1 || dK x == 3,byI (dK x) acc.2 (oK dl oc dc x)) else acc
def aKx(dl:Int)(oc:List Int)(dc:Lqq)(bib time:Int):Bool × Int:=dc.foldl (aGb dl oc dc bib) (time == -1,time)
def dO(dl:Int)(oc:List Int)(dc:Lqq)(bib time:Int):Int × Bool:=if (aKx dl oc dc bib time).1 then (0,true) else (max 0 (aKx dl oc dc bib time).2,false)
section
variable {dl:Int} {sk dc:Lqq} {oc:List Int} {ov:PV}
theorem aPe(hd:dA dc):∀ (n:Nat) (x:List Int),x∈dc→10000-dN x≤(n:Int)→0≤oK dl oc dc x∧oK dl oc dc x≤36000
 | 0,x,hx,h=>by have:=jP hd hx;omega
 | n+1,x,hx,h=>by
  rw [bAr hd hx];cases hr:aLf dl oc dc x with
  | none =>
   have h4:=(jM.1 (hd.rng x hx)).2.2.2;have:kW (x.getD 1 0)≤36000:=by unfold kW;split <;> omega
   show 0≤x.getD 4 0∧x.getD 4 0≤36000;omega
  | some z =>
   have hz:z∈bR dc (dN x):=by
    rw [aDr hd hx] at hr
    exact aAh hr
   obtain ⟨a1,a2⟩:=rE hd hx hz;exact aPe hd n z a1 (by omega)
theorem bUa(hd:dA dc){x:List Int}(hx:x∈dc):0≤oK dl oc dc x∧oK dl oc dc x≤36000:=aPe hd 10000 x hx (by have:=jP hd hx;omega)
theorem cGg(hd:dA dc)(hov:∀ n,aAn ov n (oc.contains n))(bib:Int){x:List Int}(hx:x∈dc){T:Lqb}(hT:cK dl oc dc T):∃ T',cK dl oc dc T'∧aAl dl sk dc ov x bib (aUy dl oc dc bib x) T T':=by
 obtain ⟨T1,h1,c1⟩:=cBi (sk:=sk) hd hov hx T hT;obtain ⟨T2,h2,c2⟩:=cGj (sk:=sk) hd hov hx T1 h1;obtain ⟨a,k,c,d,e,f,rfl⟩:=Bp (hd.ud x hx);unfold aUy
 by_cases hk:k≤4
 ·have Ez:decide (k≤4)=true:=decide_eq_true hk
  rw [show decide (dK [a,k,c,d,e,f]≤4)=true from Ez,iL]
  by_cases hb:d=bib
  ·rw [show (dB [a,k,c,d,e,f] == bib)=true by simpa using hb,iL]
   cases hc:dM dl oc dc [a,k,c,d,e,f] with
   | false =>
    rw [hc] at c1
    exact ⟨T1,h1,cAv Ez hb c1 rfl⟩
   | true =>
    rw [hc] at c1
    rw [iL]
    by_cases h4:k=4
    ·rw [show (dK [a,k,c,d,e,f] == 4)=true by simpa using h4,Bool.not_true,Bool.false_or]
     exact ⟨T2,h2,cAu Ez hb c1 rfl h4 c2⟩
    ·rw [show (dK [a,k,c,d,e,f] == 4)=false by simpa using h4,Bool.not_false,Bool.true_or]
     exact ⟨T1,h1,cAt Ez hb c1 rfl h4⟩
  ·rw [show (dB [a,k,c,d,e,f] == bib)=false by simpa using hb,Bool.false_and]
   exact ⟨T,hT,cAw Ez hb⟩
 ·have Ez:decide (k≤4)=false:=decide_eq_false hk
  rw [show decide (dK [a,k,c,d,e,f]≤4)=false from Ez,Bool.false_and]
  exact ⟨T,hT,cAx Ez⟩
theorem cGh(hd:dA dc)(hov:∀ n,aAn ov n (oc.contains n))(s0 s1:Int)(hs : -1≤s1∧s1≤360000){T:Lqb}(hT:cK dl oc dc T):∃ T',cK dl oc dc T'∧cAs dl sk dc ov [s0,s1] (dO dl oc dc s0 s1).1 (dO dl oc dc s0 s1).2 T T':=by
 have hlen:=hd.len;obtain ⟨acc,⟨h1,h2,_⟩,h3⟩:=aE.ex (P:=Tp) (k:=7) (b:=sub (cd Tryz.f95) cy) (e := .exit 0) (fun i (a:(Bool × Int) × Lqb)=>tot_S0 dl sk dc ov s0 s1 a.1.1 a.1.2 i (aK a.2) a.2.length)
  (fun a=>tot_S0 dl sk dc ov s0 s1 a.1.1 a.1.2 dc.length (aK a.2) a.2.length)
  (fun i a=>cK dl oc dc a.2∧a.1=(dc.take i).foldl (aGb dl oc dc s0) (s1 == -1,s1) ∧ -1-36000*(i:Int)≤a.1.2∧a.1.2≤360000+43200000*(i:Int)) (by simp) dc.length
  (fun i acc hi hI=>by
   obtain ⟨⟨out,tot⟩,T1⟩:=acc;obtain ⟨h1,h2,h3,h4⟩:=hI;dsimp only at h1 h2 h3 h4
   have hm:=eE hi;obtain ⟨a,k,c,d,e,f,hy⟩:=Bp (hd.ud _ hm);have hx:dc[i]? = some [a,k,c,d,e,f]:=by rw [An hi,hy]
   rw [hy] at hm
   have et:(dc.take (i+1)).foldl (aGb dl oc dc s0) (s1 == -1,s1)=aGb dl oc dc s0 (out,tot) [a,k,c,d,e,f]:=by
    rw [List.take_add_one,hx,vX,← h2];rfl
   obtain ⟨T2,q1,q2⟩:=cGg (sk:=sk) hd hov s0 hm h1;rw [et];unfold aGb;cases hh:aUy dl oc dc s0 [a,k,c,d,e,f] with
   | false =>
    rw [hh] at q2
    exact ⟨((out,tot),T2),⟨q1,by simp,by dsimp only;omega,by dsimp only;omega⟩,aUz (by omega) hx hd.ud q2 rfl (aM (by omega)) rfl rfl rfl⟩
   | true =>
    rw [hh] at q2
    rw [if_pos rfl];obtain ⟨T3,q3,q4⟩:=cGk (sk:=sk) hd hov hm T2 q1;have hb:=bUa (dl:=dl) (oc:=oc) hd hm;revert q4 hb;generalize oK dl oc dc [a,k,c,d,e,f]=m;intro q4 hb;have hk:0≤k∧k≤4:=by
     have h5:=(jM.1 (hd.rng _ hm)).2.1;unfold aUy at hh
     rw [Bw] at hh
     exact ⟨h5.1,of_decide_eq_true hh.1⟩
    have Tk:k=0∨k=1∨k=2∨k=3∨k=4:=by omega
    clear hh
    rcases Tk with rfl | rfl | rfl | rfl | rfl
    ·have hI:∀ q:Bool,-1-36000*((i+1:Nat):Int)≤tot+m∧tot+m≤360000+43200000*((i+1:Nat):Int):=fun _=>by omega
     cases out with
     | true=>exact ⟨((true,tot+m),T3),⟨q3,rfl,(hI true).1,(hI true).2⟩,tot_L0_p0 (by omega) hx hd.ud q2 rfl rfl q4 (by show inR (tot+m);unfold inR;omega) (aM (by omega)) rfl rfl rfl rfl⟩
     | false=>exact ⟨((false,tot+m),T3),⟨q3,rfl,(hI true).1,(hI true).2⟩,tot_L0_p1 (by omega) hx hd.ud q2 rfl rfl q4 (by show inR (tot+m);unfold inR;omega) (aM (by omega)) rfl rfl rfl rfl rfl⟩
    ·have hI:∀ q:Bool,-1-36000*((i+1:Nat):Int)≤tot-m∧tot-m≤360000+43200000*((i+1:Nat):Int):=fun _=>by omega
     cases out with
     | true=>exact ⟨((true,tot-m),T3),⟨q3,rfl,(hI true).1,(hI true).2⟩,bFf (by omega) hx hd.ud q2 rfl rfl q4 (by show inR (tot-m);unfold inR;omega) (aM (by omega)) rfl rfl rfl rfl⟩
     | false=>exact ⟨((false,tot-m),T3),⟨q3,rfl,(hI true).1,(hI true).2⟩,bFg (by omega) hx hd.ud q2 rfl rfl q4 (by show inR (tot-m);unfold inR;omega) (aM (by omega)) rfl rfl rfl rfl rfl⟩
    ·have hI:∀ q:Bool,-1-36000*((i+1:Nat):Int)≤tot+1200*m∧tot+1200*m≤360000+43200000*((i+1:Nat):Int):=fun _=>by omega
     cases out with
     | true=>exact ⟨((true,tot+1200*m),T3),⟨q3,rfl,(hI true).1,(hI true).2⟩,bFh (by omega) hx hd.ud q2 rfl rfl q4 ⟨by show inR (1200*m);unfold inR;omega,by show inR (tot+1200*m);unfold inR;omega⟩ (aM (by omega)) rfl rfl rfl rfl⟩
     | false=>exact ⟨((false,tot+1200*m),T3),⟨q3,rfl,(hI true).1,(hI true).2⟩,bFi (by omega) hx hd.ud q2 rfl rfl q4 ⟨by show inR (1200*m);unfold inR;omega,by show inR (tot+1200*m);unfold inR;omega⟩ (aM (by omega)) rfl rfl rfl rfl rfl⟩
    ·have hI:∀ q:Bool,-1-36000*((i+1:Nat):Int)≤tot∧tot≤360000+43200000*((i+1:Nat):Int):=fun _=>by omega
     cases out with
     | true=>exact ⟨((true,tot),T3),⟨q3,rfl,(hI true).1,(hI true).2⟩,bFj (by omega) hx hd.ud q2 rfl rfl q4 (aM (by omega)) rfl rfl rfl⟩
     | false=>exact ⟨((true,tot),T3),⟨q3,rfl,(hI true).1,(hI true).2⟩,bFk (by omega) hx hd.ud q2 rfl rfl q4 (aM (by omega)) rfl rfl rfl rfl⟩
    ·have hI:∀ q:Bool,-1-36000*((i+1:Nat):Int)≤tot+m∧tot+m≤360000+43200000*((i+1:Nat):Int):=fun _=>by omega
     cases out with
     | true=>exact ⟨((true,tot+m),T3),⟨q3,rfl,(hI true).1,(hI true).2⟩,bFl (by omega) hx hd.ud q2 rfl rfl q4 (by show inR (tot+m);unfold inR;omega) (aM (by omega)) rfl rfl rfl rfl⟩
     | false=>exact ⟨((false,tot+m),T3),⟨q3,rfl,(hI true).1,(hI true).2⟩,bFm (by omega) hx hd.ud q2 rfl rfl q4 (by show inR (tot+m);unfold inR;omega) (aM (by omega)) rfl rfl rfl rfl rfl⟩)
  (fun acc hI=>aVa (by omega)) (acc:=((s1 == -1,s1),T)) ⟨hT,by simp,by dsimp only;omega,by dsimp only;omega⟩
 obtain ⟨⟨out,tot⟩,T1⟩:=acc;dsimp only at h1 h2 h3
 rw [List.take_length] at h2
 have e:aKx dl oc dc s0 s1=(out,tot):=h2.symm;unfold dO;rw [e];cases out with
 | true=>exact ⟨T1,h1,tot_p0 h3 rfl⟩
 | false=>exact ⟨T1,h1,cBe h3 rfl (by simp) (by simp [bNk];omega)⟩
end
end
section
structure bMl (sk:Lqq) (m0 mx:Int) (i:Nat):Prop where
 us:uni 2 sk
 len:sk.length=i
 deck:m0≤mx∧mx≤m0+2*(i:Int)
 mem:∀ x∈sk,skB x=true∧x.getD 0 0≤3*(i:Int)-2
 tim:∀ x∈sk,x.getD 1 0≤16000
 up:sk.Pairwise fun a b=>a.getD 0 0<b.getD 0 0
theorem bMl.snoc{sk:Lqq}{m0 mx:Int}{i:Nat}(h:bMl sk m0 mx i)(hi:i<100){t F7:Int}(ht : -1≤t∧t≤16000)(hm:mx≤F7∧F7≤mx+2):bMl (sk++[[3*(i:Int)+1,t]]) m0 F7 (i+1):=by
 obtain ⟨h1,h2,h3,h4,h6,h5⟩:=h;refine ⟨aPb h1 rfl,by simp [h2],by omega,fun x hx => ?_,fun x hx => ?_,?_⟩
 ·rcases dY.1 hx with hx | hx
  ·exact ⟨(h4 x hx).1,by have:=(h4 x hx).2;omega⟩
  ·rw [List.mem_singleton.1 hx]
   exact ⟨bAc.2 ⟨⟨show 1≤3*(i:Int)+1 by omega,show 3*(i:Int)+1≤999 by omega⟩,ht.1,show t≤360000 by omega⟩,show 3*(i:Int)+1≤_ by omega⟩
 ·rcases dY.1 hx with hx | hx
  ·exact h6 x hx
  ·rw [List.mem_singleton.1 hx]
   exact ht.2
 ·rw [List.pairwise_append]
  refine ⟨h5,List.pairwise_singleton _ _,fun x hx y hy => ?_⟩
  rw [List.mem_singleton.1 hy];have:=(h4 x hx).2;show x.getD 0 0<3*(i:Int)+1;omega
theorem bYx{nd:Int}{l:List Int}{r0 m1 t2:Int}(hr:0≤r0∧r0≤30)(hm:0≤m1∧m1≤1000):∃ sk mx tt,bMl sk m1 mx r0.toNat∧aE Tp 1 (sub (cd Tryz.f7) cy) (lG nd l r0 0 0 [] m1 t2) (.exit 0) (lG nd l r0 r0.toNat sk.length (sk.flatten.map aA) mx tt):=by
 obtain ⟨A,hI,hL⟩:=aE.ex (P:=Tp) (k:=1) (b:=sub (cd Tryz.f7) cy) (e := .exit 0) (fun i (A:Lqq × Int × Int)=>lG nd l r0 i A.1.length (A.1.flatten.map aA) A.2.1 A.2.2) (fun A=>lG nd l r0 r0.toNat A.1.length (A.1.flatten.map aA) A.2.1 A.2.2)
  (fun i A=>bMl A.1 m1 A.2.1 i) (by simp) r0.toNat
  (fun i A hi hA=>by
   obtain ⟨sk,mx,tt⟩:=A;have hd:=hA.deck;have hl:=hA.len;dsimp only at hd hl
   obtain ⟨r,m,t,e⟩:∃ r m t,bL 20 l mx tt=(r,m,t):=⟨_,_,_,rfl⟩;have b:=eT 20 l mx tt;rw [e] at b
   dsimp only at b
   obtain ⟨c,m',t',e'⟩:∃ r m2 t2,pQ 12 l m t=(r,m2,t2):=⟨_,_,_,rfl⟩;have b':=aPa 12 l m t;rw [e'] at b'
   dsimp only at b'
   have C7:mx≤m'∧m'≤mx+2:=by omega
   have hmx:0≤mx∧mx≤1000000000:=by omega
   have Rb:0≤m∧m≤1000000000:=by omega
   have hsl:sk.length+1≤1000000:=by omega
   cases c with
   | true =>
    refine ⟨(sk++[[3*(i:Int)+1,-1]],m',t'),hA.snoc (by omega) (by omega) C7,?_⟩
    exact bEd (by omega) (by show _∧_;omega) (by show _∧_;omega) hmx e (by show _∧_;omega) (by show _∧_;omega) Rb e' rfl ⟨rfl,hsl⟩ (aM (by omega)) rfl (by simp) (by simp)
   | false =>
    refine ⟨(sk++[[3*(i:Int)+1,15000+50*r]],m',t'),hA.snoc (by omega) (by omega) C7,?_⟩
    exact bEe (by omega) (by show _∧_;omega) (by show _∧_;omega) hmx e (by show _∧_;omega) (by show _∧_;omega) Rb e' rfl ⟨rfl,hsl⟩ (aM (by omega)) rfl (by simp) (by simp))
  (fun A _=>bEf (by omega)) (acc:=([],m1,t2)) ⟨fun x h=>by simp at h,rfl,⟨aTx _,by show m1≤_;omega⟩,fun x h=>by simp at h,fun x h=>by simp at h,.nil⟩
 exact ⟨_,_,_,hI,hL⟩
theorem bYy{l:List Int}{sk:Lqq}{r7 m8 t9:Int}(hr:0≤r7∧r7≤100)(hu:uni 2 sk)(hs:1≤sk.length∧sk.length≤100)(hm:0≤m8∧m8≤1000):∃ dc nu mx tt,aUd sk dc nu mx r7.toNat∧aE Tp 1 (sub (cd Tryz.f7) cb) (fM l sk r7 0 0 [] 0 m8 t9) (.exit 2) (fM l sk r7 r7.toNat dc.length (dc.flatten.map aA) nu mx tt):=by
 obtain ⟨A,hI,hL⟩:=aE.ex (P:=Tp) (k:=1) (b:=sub (cd Tryz.f7) cb) (e := .exit 2) (fun j (A:Lqq × Int × Int × Int)=>fM l sk r7 j A.1.length (A.1.flatten.map aA) A.2.1 A.2.2.1 A.2.2.2) (fun A=>fM l sk r7 r7.toNat A.1.length (A.1.flatten.map aA) A.2.1 A.2.2.1 A.2.2.2)
  (fun j A=>aUd sk A.1 A.2.1 A.2.2.1 j) (by simp) r7.toNat
  (fun j A hj hA=>by
   obtain ⟨C8,Nz,F7,Jw,h1,h2⟩:=bSj (l:=l) (tt:=A.2.2.2) hA (r7:=r7) (by omega) hr.2 hu hs
   exact ⟨(C8,Nz,F7,Jw),h1,h2⟩)
  (fun A _=>bEk (by omega)) (acc:=([],0,m8,t9)) ⟨fun x h=>by simp at h,rfl,⟨aTx _,by show (0:Int)≤_;omega⟩,⟨hm.1,by show m8≤_;omega⟩,fun x h=>by simp at h,.nil⟩
 exact ⟨_,_,_,_,hI,hL⟩
theorem bYz{ns nd:Int}{l:List Int}{nx st:Int}(hns:1≤ns∧ns≤30)(hnd:0≤nd∧nd≤40)(hnx:0≤nx∧nx≤900):∃ sk dc mx tt,fQ 30 sk dc∧(sk.length:Int)≤ns∧(dc.length:Int)≤nd∧(0≤mx∧mx≤4000)∧(sk.Pairwise fun a b=>a.getD 0 0<b.getD 0 0)∧(dc.Pairwise fun a b=>a.getD 0 0<b.getD 0 0)∧(∀ x∈dc,x.getD 0 0≤80)∧(∀ x∈sk,x.getD 0 0≤88∧x.getD 1 0≤16000) ∧
  FMM Tp 7 [.ptr 0 0,.p (aA ns),.p (aA nd)] [some (fY l nx st)] (.p (.agg (qZ 30 sk dc))) [some (fY l mx tt)]:=by
 obtain ⟨r0,m1,t2,e0⟩:∃ r m t,nH 1 ns l nx st=(r,m,t):=⟨_,_,_,rfl⟩;have b0:=aAw 1 ns l nx st;rw [e0] at b0
 dsimp only at b0
 obtain ⟨sk,mx,tt,hS,Nv⟩:=bYx (nd:=nd) (l:=l) (r0:=r0) (m1:=m1) (t2:=t2) (by omega) (by omega)
 have hsl:=hS.len;have hsd:=hS.deck;obtain ⟨r7,m8,t9,e7⟩:∃ r m t,bL (nd+1) l mx tt=(r,m,t):=⟨_,_,_,rfl⟩;have b7:=eT (nd+1) l mx tt;rw [e7] at b7
 dsimp only at b7
 obtain ⟨dc,nu,F7,Jw,hM,Tb⟩:=bYy (l:=l) (sk:=sk) (r7:=r7) (m8:=m8) (t9:=t9) (by omega) hS.us (by omega) (by omega)
 have hml:=hM.len;have hmd:=hM.deck;have hnod:∀ {f:Lqq},(f.Pairwise fun a b=>a.getD 0 0<b.getD 0 0)→(bC f 0).Nodup:=fun {f} h=>by
  unfold bC;rw [List.Nodup,List.pairwise_map];exact h.imp fun h=>by omega
 refine ⟨sk,dc,F7,Jw,⟨hS.us,hM.ud,by omega,by omega,by omega,fun x hx=>(hS.mem x hx).1,fun x hx=>(hM.mem x hx).1.1,hnod hS.up,hnod hM.up,fun x hx=>(hM.mem x hx).1.2.1,fun x hx=>(hM.mem x hx).1.2.2⟩,by omega,by omega,by omega,hS.up,hM.up,fun x hx => ?_,fun x hx=>⟨?_,hS.tim x hx⟩,?_⟩
 ·have h1:=(hM.mem x hx).2
  have h2:=hM.num;omega
 ·have:=(hS.mem x hx).2
  omega
 exact bZc (by omega) (by omega) e0 Nv (by show _∧_;omega) (by omega) e7 Tb
end
end KV
end Go.Proofs
section
namespace Go.Proofs
open Go.RowKit
namespace KV
open Tryz
variable {P:Program} {n:Nat}
end KV
end Go.Proofs
end
section
namespace Go.Proofs
open Go.RowKit
namespace KV
open Tryz
variable {P:Program} {C C0:Cx} {M M0:Mem} {w w0:World}
section
variable {k kb gi gf p1 d id ty:Nat} {pos:String} {body:Code} {g:AV} {N:Nat} {xs:Lqq}
end
end KV
end Go.Proofs
end
section
namespace Go.Proofs
open Go.RowKit
namespace KV
open Tryz
variable {P:Program} {T:TT} {E:Env} {C C0:Cx} {M M0:Mem} {w w0:World}
end KV
end Go.Proofs
end
namespace Go.Proofs
namespace KV
open Tryz
section

end
section
end
section
section
variable {α:Type}

def mv(A:List α)(x:α)(j:Nat)(R:List α):List α:=A.take j++x::(A.drop j++R)

theorem mv_length(A:List α)(x:α)(j:Nat)(R:List α)(hj:j≤A.length):(mv A x j R).length=A.length+1+R.length:=by
 unfold mv;simp;omega

theorem mv_get(A:List α)(x:α)(j:Nat)(R:List α)(hj:j≤A.length)(t:Nat) :
  (mv A x j R)[t]? = if t<j then A[t]? else if t=j then some x else if t≤A.length then A[t-1]? else R[t-A.length-1]? := by
 unfold mv
 by_cases h1:t<j
 ·rw [if_pos h1,aFx (by simp;omega),List.getElem?_take_of_lt h1]
 ·rw [if_neg h1,aKl (by simp;omega)]
  have hl:(A.take j).length=j:=by simp;omega
  rw [hl]
  by_cases h2:t=j
  ·rw [if_pos h2,show t-j=0 by omega];rfl
  ·rw [if_neg h2,show t-j=(t-j-1)+1 by omega,List.getElem?_cons_succ]
   by_cases h3:t≤A.length
   ·rw [if_pos h3,aFx (by simp;omega),List.getElem?_drop]
    congr 1;omega
   ·rw [if_neg h3,aKl (by simp;omega)]
    congr 1
    simp;omega

theorem mv_swap(A:List α)(x:α)(j:Nat)(R:List α)(hj:j≤A.length)(h0:0<j)(y:α)(hy:A[j-1]? = some y) :
  ((mv A x j R).set j y).set (j-1) x=mv A x (j-1) R:=by
 have hl:=mv_length A x j R hj;apply List.ext_getElem?;intro t;rw [List.getElem?_set,List.getElem?_set,mv_get A x (j-1) R (by omega),mv_get A x j R hj]
 simp only [lP,hl]
 by_cases h1:j-1=t
 ·subst h1
  rw [if_pos rfl,if_pos (by omega),if_neg (by omega),if_pos rfl]
 ·rw [if_neg h1]
  by_cases h2:j=t
  ·subst h2
   rw [if_pos rfl,if_pos (by omega),if_neg (by omega),if_neg (by omega),if_pos (by omega),hy]
  ·rw [if_neg h2]
   by_cases h3:t<j
   ·rw [if_pos h3,if_pos (by omega)]
   ·rw [if_neg h3,if_neg (by omega:¬ t=j),if_neg (by omega:¬ t<j-1),if_neg (by omega:¬ t=j-1)]

def insPos(lt:α→α→Bool)(x:α)(A:List α):Nat:=(A.reverse.dropWhile (lt x)).length
def ins(lt:α→α→Bool)(A:List α)(x:α):List α:=A.take (insPos lt x A)++x::A.drop (insPos lt x A)
def isort(lt:α→α→Bool)(l:List α):List α:=l.foldl (ins lt) []

theorem dropWhile_all_append{p:α→Bool}:∀ (l r:List α),(∀ x∈l,p x=true)→(l++r).dropWhile p=r.dropWhile p
 | [],_,_=>rfl
 | x::l,r,h=>by
  rw [List.cons_append,List.dropWhile_cons,if_pos (h x (by simp))]
  exact dropWhile_all_append l r (fun y hy=>h y (by simp [hy]))

theorem insPos_eq(lt:α→α→Bool)(x:α)(A:List α)(j:Nat)(hj:j≤A.length)(h:∀ t (_:t<A.length),j≤t→lt x A[t]=true)
  (h2:j=0∨∃ y,A[j-1]? = some y∧lt x y=false):insPos lt x A=j:=by
 unfold insPos;have e:A.reverse=(A.drop j).reverse++(A.take j).reverse:=by rw [← List.reverse_append,bDl]
 rw [e,dropWhile_all_append]
 ·rcases h2 with h0 | ⟨y,hy,hlt⟩
  ·subst h0;simp
  ·by_cases h0:j=0
   ·subst h0;simp
   ·have e2:A.take j=A.take (j-1)++[y]:=by
     rw [show j=(j-1)+1 by omega,List.take_add_one,Nat.add_sub_cancel,hy];rfl
    have hl:(A.take (j-1)).length=j-1:=by simp;omega
    rw [e2,List.reverse_append];show ((y::(A.take (j-1)).reverse).dropWhile (lt x)).length=j;rw [List.dropWhile_cons,hlt];simp;omega
 ·intro z hz
  rw [bDn] at hz
  obtain ⟨t,ht,rfl⟩:=List.getElem_of_mem hz;rw [List.getElem_drop];exact h (j+t) (by simp at ht;omega) (by omega)

theorem ins_length(lt:α→α→Bool)(A:List α)(x:α):(ins lt A x).length=A.length+1:=by
 unfold ins;simp;have:insPos lt x A≤A.length:=by
  unfold insPos;have h2:((A.reverse).dropWhile (lt x)).length≤A.reverse.length:=(List.dropWhile_sublist _).length_le;simpa using h2
 omega

theorem mv_end(A:List α)(x:α)(R:List α):mv A x A.length R=A++x::R:=by unfold mv;simp
theorem mv_ins(lt:α→α→Bool)(A:List α)(x:α)(R:List α):mv A x (insPos lt x A) R=ins lt A x++R:=by unfold mv ins;simp

theorem isort_length(lt:α→α→Bool)(l:List α):(isort lt l).length=l.length:=by
 unfold isort;have:∀ (l A:List α),(l.foldl (ins lt) A).length=A.length+l.length:=by
  intro l
  induction l with
  | nil=>intro A;simp
  | cons x r ih=>intro A;rw [qR,ih,ins_length];simp;omega
 rw [this];simp

theorem isort_snoc(lt:α→α→Bool)(l:List α)(k:Nat)(h:k<l.length):isort lt (l.take (k+1))=ins lt (isort lt (l.take k)) l[k]:=by
 unfold isort;rw [List.take_succ_eq_append_getElem h,vX];rfl
end
theorem Gp{x:List Int}(h:x.length=3):∃ a b c,x=[a,b,c]:=by
 match x,h with
 | [a,b,c],_=>exact ⟨a,b,c,rfl⟩
theorem isort_mem{α:Type}(lt:α→α→Bool)(l:List α)(y:α):y∈isort lt l↔y∈l:=by
 unfold isort;have : ∀ (l A:List α),y∈l.foldl (ins lt) A↔y∈A∨y∈l:=by
  intro l
  induction l with
  | nil=>intro A;simp
  | cons x r ih =>
   intro A;rw [qR,ih];have:y∈ins lt A x↔y∈A∨y=x:=by
    unfold ins;rw [dY,eO];constructor
    ·rintro (h | h | h)
     ·exact Or.inl (List.mem_of_mem_take h)
     ·exact Or.inr h
     ·exact Or.inl (List.mem_of_mem_drop h)
    ·rintro (h | h)
     ·rw [← bDl (insPos lt x A) A,dY] at h
      rcases h with h | h
      ·exact Or.inl h
      ·exact Or.inr (Or.inr h)
     ·exact Or.inr (Or.inl h)
   rw [this,eO];constructor
   ·rintro ((h | h) | h) <;> simp [h]
   ·rintro (h | h | h) <;> simp [h]
 rw [this];simp

section
variable {α:Type}
theorem yK(lt:α→α→Bool)(A:List α)(x:α):∃ B D:List α,A=B++D∧ins lt A x=B++x::D∧(∀ d∈D,lt x d=true)∧(B=[]∨∃ B' h,B=B'++[h]∧lt x h=false):=by
 have hA:A=(A.reverse.dropWhile (lt x)).reverse++(A.reverse.takeWhile (lt x)).reverse:=by
  rw [← List.reverse_append,List.takeWhile_append_dropWhile,List.reverse_reverse]
 generalize hdw:A.reverse.dropWhile (lt x)=dw at hA
 generalize htw:A.reverse.takeWhile (lt x)=tw at hA
 have hp:insPos lt x A=dw.reverse.length:=by unfold insPos;rw [hdw,List.length_reverse]
 refine ⟨dw.reverse,tw.reverse,hA,?_,fun d hd => ?_,?_⟩
 ·unfold ins
  rw [hp]
  conv=>lhs;rw [hA]
  rw [List.take_left',List.drop_left'] <;> rfl
 ·rw [bDn,← htw] at hd
  exact fL.1 List.all_takeWhile d hd
 ·cases dw with
  | nil=>exact .inl rfl
  | cons h r =>
   refine .inr ⟨r.reverse,h,by simp,?_⟩
   have:=List.head_dropWhile_not (lt x) (l:=A.reverse) (by rw [hdw];simp)
   simp only [hdw,List.head_cons] at this
   simpa using this
theorem aPs(lt:α→α→Bool)(A:List α)(x:α):(ins lt A x).Perm (x::A):=by
 obtain ⟨B,D,h1,h2,_⟩:=yK lt A x;rw [h2,h1];exact List.perm_middle
theorem aWc(lt:α→α→Bool)(l:List α):(isort lt l).Perm l:=by
 unfold isort;have:∀ (l A:List α),(l.foldl (ins lt) A).Perm (A++l):=by
  intro l
  induction l with
  | nil=>intro A;simp
  | cons x r ih =>
   intro A;rw [qR];refine (ih _).trans (((aPs lt A x).append_right r).trans ?_);exact List.perm_middle.symm
 simpa using this l []
theorem aWd{f:α→Int}{lt:α→α→Bool}(hlt:∀ x y,lt x y=decide (f x<f y)){A:List α}(x:α)(hs:A.Pairwise (fun a b=>f a≤f b)):(ins lt A x).Pairwise (fun a b=>f a≤f b):=by
 obtain ⟨B,D,rfl,h2,h3,h4⟩:=yK lt A x;rw [h2];obtain ⟨s1,s2,s3⟩:=List.pairwise_append.1 hs;have hB:∀ b∈B,f b≤f x:=fun b hb=>by
  rcases h4 with rfl | ⟨B',h,rfl,hx⟩
  ·simp at hb
  ·rw [hlt,decide_eq_false_iff_not] at hx
   rcases dY.1 hb with hb | hb
   ·have:=(List.pairwise_append.1 s1).2.2 b hb h (by simp)
    omega
   ·simp at hb;subst hb;omega
 have hD:∀ d∈D,f x≤f d:=fun d hd=>by
  have:=h3 d hd;rw [hlt,decide_eq_true_eq] at this
  omega
 refine List.pairwise_append.2 ⟨s1,bSc.2 ⟨hD,s2⟩,fun a ha b hb => ?_⟩
 rcases eO.1 hb with rfl | hb
 ·exact hB a ha
 ·exact s3 a ha b hb
theorem pJ{f:α→Int}{lt:α→α→Bool}(hlt:∀ x y,lt x y=decide (f x<f y))(l:List α):(isort lt l).Pairwise (fun a b=>f a≤f b):=by
 unfold isort;have:∀ (l A:List α),A.Pairwise (fun a b=>f a≤f b)→(l.foldl (ins lt) A).Pairwise (fun a b=>f a≤f b):=by
  intro l
  induction l with
  | nil=>intro A h;exact h
  | cons x r ih=>intro A h;rw [qR];exact ih _ (aWd hlt x h)
 exact this l [] .nil
end
section
variable {α:Type}
theorem aWe{f g:α→Int}{lt:α→α→Bool}(hlt:∀ x y,lt x y=decide (f x<f y)){A:List α}(x:α)(hs:A.Pairwise (fun a b=>f a<f b∨f a=f b∧g a<g b))(hg:∀ a∈A,g a<g x):(ins lt A x).Pairwise (fun a b=>f a<f b∨f a=f b∧g a<g b):=by
 obtain ⟨B,D,rfl,h2,h3,h4⟩:=yK lt A x;rw [h2];obtain ⟨s1,s2,s3⟩:=List.pairwise_append.1 hs;have hB:∀ b∈B,f b≤f x:=fun b hb=>by
  rcases h4 with rfl | ⟨B',h,rfl,hx⟩
  ·simp at hb
  ·rw [hlt,decide_eq_false_iff_not] at hx
   rcases dY.1 hb with hb | hb
   ·have:=(List.pairwise_append.1 s1).2.2 b hb h (by simp)
    omega
   ·simp at hb;subst hb;omega
 have hD:∀ d∈D,f x<f d:=fun d hd=>by
  have:=h3 d hd
  rwa [hlt,decide_eq_true_eq] at this
 refine List.pairwise_append.2 ⟨s1,bSc.2 ⟨fun d hd => .inl (hD d hd),s2⟩,fun a ha b hb => ?_⟩
 rcases eO.1 hb with rfl | hb
 ·have h5:=hB a ha
  have h6:=hg a (gD _ ha)
  by_cases e:f a=f b
  ·exact .inr ⟨e,h6⟩
  ·exact .inl (by omega)
 ·exact s3 a ha b hb
theorem aLm{f g:α→Int}{lt:α→α→Bool}(hlt:∀ x y,lt x y=decide (f x<f y))(l:List α)(hl:l.Pairwise (fun a b=>g a<g b)):(isort lt l).Pairwise (fun a b=>f a<f b∨f a=f b∧g a<g b):=by
 unfold isort;have:∀ (l A:List α),l.Pairwise (fun a b=>g a<g b)→(∀ a∈A,∀ x∈l,g a<g x)→A.Pairwise (fun a b=>f a<f b∨f a=f b∧g a<g b)→(l.foldl (ins lt) A).Pairwise (fun a b=>f a<f b∨f a=f b∧g a<g b):=by
  intro l
  induction l with
  | nil=>intro A _ _ h;exact h
  | cons x r ih =>
   intro A hl hA h;obtain ⟨h1,h2⟩:=bSc.1 hl;rw [qR];refine ih _ h2 (fun a ha y hy => ?_) (aWe hlt x h (fun a ha=>hA a ha x (gO ..)))
   rcases eO.1 ((aPs lt A x).mem_iff.1 ha) with rfl | ha
   ·exact h1 y hy
   ·exact hA a ha y (B3 _ hy)
 exact this l [] hl (fun a ha=>by simp at ha) .nil
end
end
section
variable {j x y A9 Av A0 A1 Bb Au:Int}{L M l:Lqq}{i base:Nat}

noncomputable abbrev aPr:Code:=sub (cd Tryz.f214) [1,0,0,1,0,0,1,0,0]
noncomputable abbrev bAw:Code:=sub (cd Tryz.f214) [1,0,0]
theorem nan_p0{r0:Bool}(Ak:r0=(x != x)):FV Tp 124 [(pI x)] base (pB r0) []:=by
 subst Ak;exact FV.fi func124 [] gn
theorem nan_ok(x:Int){base:Nat}:FV Tp 124 [.p (aA x)] base (pB false) []:=nan_p0 (by simp)
theorem cmp_p0(h0:x<y):FV Tp 62 [(pI x),(pI y)] base (pI (-1)) []:=FV.fi func62 [.c (pB false) [],.c (pB false) [],bF,bF,bT] (gc (bD h0) (gf (gf (gc (fk 0 (nan_ok y) rfl) (gc (fk 0 (nan_ok x) rfl) gn)))))
theorem cmp_p1(h0:y≤x)(h1:y<x):FV Tp 62 [(pI x),(pI y)] base (pI 1) []:=FV.fi func62 [.c (pB false) [],.c (pB false) [],bF,bF,bF,bT] (gc (bD h1) (gc (aQ h0) (gf (gf (gc (fk 0 (nan_ok y) rfl) (gc (fk 0 (nan_ok x) rfl) gn))))))
theorem cmp_p2(h0:y≤x)(h1:x≤y):FV Tp 62 [(pI x),(pI y)] base (pI 0) []:=FV.fi func62 [.c (pB false) [],.c (pB false) [],bF,bF,bF,bF] (gc (aQ h1) (gc (aQ h0) (gf (gf (gc (fk 0 (nan_ok y) rfl) (gc (fk 0 (nan_ok x) rfl) gn))))))
def cmpI(x y:Int):Int:=if x<y then -1 else if y<x then 1 else 0
theorem cmp_ok(x y:Int){base:Nat}:FV Tp 62 [.p (aA x),.p (aA y)] base (pI (cmpI x y)) []:=by
 unfold cmpI
 by_cases h1:x<y
 ·rw [if_pos h1];exact cmp_p0 h1
 ·rw [if_neg h1]
  by_cases h2:y<x
  ·rw [if_pos h2];exact cmp_p1 (by omega) h2
  ·rw [if_neg h2];exact cmp_p2 (by omega) (by omega)
def ltK(f:Nat)(x y:List Int):Bool:=decide (cmpI (x.getD f 0) (y.getD f 0)<0)
theorem aLl(f:Nat)(x y:List Int):ltK f x y=decide (x.getD f 0<y.getD f 0):=by
 unfold ltK cmpI;rw [decide_eq_decide]
 split
 ·omega
 ·split <;> omega
theorem bAx{a0 a1 a2 b0 b1 b2 r0:Int}(Ak:r0=(cmpI a2 b2)):FV Tp 97 [(.p (.agg [(aA a0),(aA a1),(aA a2)])),(.p (.agg [(aA b0),(aA b1),(aA b2)]))] base (pI r0) []:=by
 subst Ak;have k1:=fk 2 (cmp_ok a2 b2) rfl;exact FV.fi func97 [k1.o] (gc k1 gn)
def nA(l:Lqq)(i Ln:Nat)(Lc:List PV):St:=⟨fr 53 [(0,(.own 0)),(1,(pI 0)),(2,(pI (l.length:Int))),(3,(.fn 97 [] [])),(8,(pI (i:Int)))],[some (.row 63 Ln Lc)]⟩
theorem bAy{Ar:Nat}{L'1:Lqq}(hl0:aE Tp 1 bAw (nA l 1 l.length (l.flatten.map aA)) (.exit 0) (nA l Ar L'1.length (L'1.flatten.map aA))):FMM Tp 214 [(.own 0),(pI 0),(pI (l.length:Int)),(.fn 97 [] [])] [some (.row 63 l.length (l.flatten.map aA))] (.tup []) [some (.row 63 L'1.length (L'1.flatten.map aA))]:=FMM.fi 1 gE func214 [hl0.k 3 (gZ dh)] (gc hl0.code (gt (inR 1) (by show _∧_;omega) gn))
def kO(l:Lqq)(i:Nat)(j:Int)(Mn:Nat)(Mc:List PV):St:=⟨fr 53 [(0,(.own 0)),(1,(pI 0)),(2,(pI (l.length:Int))),(3,(.fn 97 [] [])),(8,(pI (i:Int))),(9,(pI j)),(12,(pI (i:Int))),(13,(pI (l.length:Int))),(14,(pB (decide ((i:Int)<(l.length:Int))))),(17,(pI (i:Int)))],[some (.row 63 Mn Mc)]⟩
theorem aVw{Dy:Int}{M'101:Lqq}{i':Nat}{L':Lqq}(h0:(i:Int)<(l.length:Int))(hl1:aE Tp 1 aPr (kO l i (i:Int) L.length (L.flatten.map aA)) (.exit 2) (kO l i Dy M'101.length (M'101.flatten.map aA)))(h2:di i)(Ai:i'=(i+1))(Cm:L'.length=M'101.length)(Cn:L'.flatten.map aA=(M'101.flatten.map aA)):aB Tp 1 bAw (nA l i L.length (L.flatten.map aA)) .normal (nA l i' L'.length (L'.flatten.map aA)):=by
 subst Ai;rw [Cm,Cn];exact aB.fi (gZ dh) [bT,hl1.k 5 (gZ cf)] (gc h2 (gc hl1.code (g0 h0)))
theorem aEb(h0:(l.length:Int)≤(i:Int)):aB Tp 1 bAw (nA l i L.length (L.flatten.map aA)) (.exit 0) (nA l i L.length (L.flatten.map aA)):=aB.fi (gZ dh) [bF] (gc (aQ h0) gn)
section
variable(h0:(0:Int)<j)(h1:M[j.toNat]? = some [A9,Av,A0])(h2:0≤j)(h3:uni 3 M)(h4:inR (j-1))(h5:M[(j-1).toNat]? = some [A1,Bb,Au])(h6:0≤(j-1))
include h0 h1 h2 h3 h4 h5 h6
theorem aVx{j':Int}{M':Lqq}(h7:(cmpI A0 Au)<0)(h8:[(aA A1),(aA Bb),(aA Au)].length=3∧(j.toNat*3)+3≤(M.flatten.map aA).length)(h9:0≤(j-1)∧(j-1)<(M.length:Int))(A5:[(aA A9),(aA Av),(aA A0)].length=3∧((j-1).toNat*3)+3≤((M.flatten.map aA).take (j.toNat*3)++[(aA A1),(aA Bb),(aA Au)]++(M.flatten.map aA).drop ((j.toNat*3)+3)).length)(C6:j'=(j-1))(Eo:M'.length=M.length)(Ep:M'.flatten.map aA=(((M.flatten.map aA).take (j.toNat*3)++[(aA A1),(aA Bb),(aA Au)]++(M.flatten.map aA).drop ((j.toNat*3)+3)).take ((j-1).toNat*3)++[(aA A9),(aA Av),(aA A0)]++((M.flatten.map aA).take (j.toNat*3)++[(aA A1),(aA Bb),(aA Au)]++(M.flatten.map aA).drop ((j.toNat*3)+3)).drop (((j-1).toNat*3)+3))):aB Tp 1 aPr (kO l i j M.length (M.flatten.map aA)) .normal (kO l i j' M'.length (M'.flatten.map aA)):=by
 subst C6;rw [Eo,Ep];exact aB.fi (gZ cf) (rT 5++[.x (.agg [(aA A9),(aA Av),(aA A0)])]++rT 5++[.x (.agg [(aA A1),(aA Bb),(aA Au)]),bT,.c (pI (cmpI A0 Au)) [],bT,bT,bT,.x (.agg [(aA A1),(aA Bb),(aA Au)]),.x (.agg [(aA A9),(aA Av),(aA A0)])]) (gc h4 (gc A5 (gc h9 (gc h8 (gc (aZ (i:=j) h2 h1) (gc (cD (i:=j.toNat) h3 h1) (gc (cW (i:=j.toNat) h3 h1) (gc (aZ (i:=j) h2 h1) (gc (cD (i:=(j-1).toNat) h3 h5) (gc (cW (i:=(j-1).toNat) h3 h5) (gc (aZ (i:=(j-1)) h6 h5) (Ap h4 (gc (bD h7) (Ap (bD h0) (gt (FC Tp 97 [(.p (.agg [(aA A9),(aA Av),(aA A0)])),(.p (.agg [(aA A1),(aA Bb),(aA Au)]))] [] 1 (pI (cmpI A0 Au)) []) (FV.fc (bAx rfl) rfl) (gc (bD h0) (gc (cD (i:=(j-1).toNat) h3 h5) (gc (cW (i:=(j-1).toNat) h3 h5) (gc (bD h0) (gc (aZ (i:=(j-1)) h6 h5) (gc (bD h0) (gc h4 (Aq (bD h0) (gc (cD (i:=j.toNat) h3 h1) (gc (cW (i:=j.toNat) h3 h1) (gc (bD h0) (gc (aZ (i:=j) h2 h1) (Aq (bD h0) (g0 h0)))))))))))))))))))))))))))))
theorem aVy(h7:(0:Int)≤(cmpI A0 Au)):aB Tp 1 aPr (kO l i j M.length (M.flatten.map aA)) (.exit 2) (kO l i j M.length (M.flatten.map aA)):=aB.fi (gZ cf) (rT 5++[.x (.agg [(aA A9),(aA Av),(aA A0)])]++rT 5++[.x (.agg [(aA A1),(aA Bb),(aA Au)]),bT,.c (pI (cmpI A0 Au)) [],bT,bT,bF]) (gc (aQ h7) (Ap (bD h0) (gt (FC Tp 97 [(.p (.agg [(aA A9),(aA Av),(aA A0)])),(.p (.agg [(aA A1),(aA Bb),(aA Au)]))] [] 1 (pI (cmpI A0 Au)) []) (FV.fc (bAx rfl) rfl) (gc (bD h0) (gc (cD (i:=(j-1).toNat) h3 h5) (gc (cW (i:=(j-1).toNat) h3 h5) (gc (bD h0) (gc (aZ (i:=(j-1)) h6 h5) (gc (bD h0) (gc h4 (Aq (bD h0) (gc (cD (i:=j.toNat) h3 h1) (gc (cW (i:=j.toNat) h3 h1) (gc (bD h0) (gc (aZ (i:=j) h2 h1) (Aq (bD h0) (g0 h0)))))))))))))))))
end
theorem aVz(h0:j≤0):aB Tp 1 aPr (kO l i j M.length (M.flatten.map aA)) (.exit 2) (kO l i j M.length (M.flatten.map aA)):=aB.fi (gZ cf) (rF 13) (Fy (aQ h0) (B7 (aQ h0) gn))
theorem cCm(l:Lqq)(i:Nat)(A R:Lqq)(hA:A.length<1000)(hi:i=A.length)(x0 x1 x2:Int)(hu:uni 3 (A++[x0,x1,x2]::R)):∀ m,m≤A.length→(∀ t (h:t<A.length),m≤t→ltK 2 [x0,x1,x2] A[t]=true) →
  aE Tp 1 aPr (kO l i (m:Int) (mv A [x0,x1,x2] m R).length ((mv A [x0,x1,x2] m R).flatten.map aA)) (.exit 2) (kO l i (insPos (ltK 2) [x0,x1,x2] A:Int) (ins (ltK 2) A [x0,x1,x2]++R).length ((ins (ltK 2) A [x0,x1,x2]++R).flatten.map aA)):=by
 have huA:∀ y∈A,y.length=3:=fun y hy=>hu y (gD _ hy)
 have huM:∀ m,uni 3 (mv A [x0,x1,x2] m R):=fun m y hy=>by
  unfold mv at hy
  rcases dY.1 hy with h | h
  ·exact huA y (List.mem_of_mem_take h)
  ·rcases eO.1 h with rfl | h
   ·rfl
   ·rcases dY.1 h with h | h
    ·exact huA y (List.mem_of_mem_drop h)
    ·exact hu y (oE _ (B3 _ h))
 intro m
 induction m with
 | zero =>
  intro _ hlt;have e:=insPos_eq (ltK 2) [x0,x1,x2] A 0 (Nat.zero_le _) hlt (.inl rfl);rw [← mv_ins,e];exact .exit (aVz (by simp)) (by simp)
 | succ m ih =>
  intro hm hlt;have hy:=An (show m<A.length by omega)
  generalize A[m]=y at hy
  obtain ⟨y0,y1,y2,rfl⟩:=Gp (huA y (Br hy));have e1:((m+1:Nat):Int).toNat=m+1:=by omega
  have e2:(((m+1:Nat):Int)-1).toNat=m:=by omega
  have hl:=mv_length A [x0,x1,x2] (m+1) R hm;have g1:(mv A [x0,x1,x2] (m+1) R)[m+1]? = some [x0,x1,x2]:=by rw [mv_get A _ _ R hm];simp
  have g2:(mv A [x0,x1,x2] (m+1) R)[m]? = some [y0,y1,y2]:=by rw [mv_get A _ _ R hm,if_pos (by omega)];exact hy
  by_cases hc:cmpI x2 y2<0
  ·have st:=gX (k:=3) (i:=m+1) (x:=[y0,y1,y2]) (huM (m+1)) (by omega) rfl
   have Ey:uni 3 ((mv A [x0,x1,x2] (m+1) R).set (m+1) [y0,y1,y2]):=vY (huM _) rfl;have st2:=gX (k:=3) (i:=m) (x:=[x0,x1,x2]) Ey (by rw [lP];omega) rfl
   have gm:((mv A [x0,x1,x2] (m+1) R).set (m+1) [y0,y1,y2])[m]? = some [y0,y1,y2]:=by rw [List.getElem?_set,if_neg (by omega)];exact g2
   have hsw:=mv_swap A [x0,x1,x2] (m+1) R hm (by omega) [y0,y1,y2] (by simpa using hy)
   rw [Nat.add_sub_cancel] at hsw
   simp only [iK,List.map_nil] at st st2
   refine .step (aVx (j:=((m+1:Nat):Int)) (j':=(m:Int)) (M':=mv A [x0,x1,x2] m R) (by omega) (by rw [e1];exact g1) (by omega) (huM _) (by show _∧_;omega) (by rw [e2];exact g2) (by omega) hc ⟨rfl,by rw [e1];exact cW (huM _) g1⟩ ⟨by omega,by omega⟩ ⟨rfl,?_⟩ (by omega) (by rw [hl,mv_length A _ _ R (by omega)]) ?_) (ih (by omega) fun t ht h1 => ?_)
   ·rw [e1,e2,st];exact cW Ey gm
   ·rw [e1,e2,st,st2,hsw]
   ·by_cases h2:t=m
    ·subst h2
     have h3:=hy;rw [An ht,Option.some.injEq] at h3
     rw [h3];simpa [ltK] using hc
    ·exact hlt t ht (by omega)
  ·have e:=insPos_eq (ltK 2) [x0,x1,x2] A (m+1) hm hlt (.inr ⟨[y0,y1,y2],by simpa using hy,by simpa [ltK] using hc⟩)
   rw [← mv_ins,e];exact .exit (aVy (by omega) (by rw [e1];exact g1) (by omega) (huM _) (by show _∧_;omega) (by rw [e2];exact g2) (by omega) (by omega)) (by simp)
theorem bVf(l:Lqq)(hu:uni 3 l)(hn:l.length<1000):FMM Tp 214 [.own 0,.p (aA 0),.p (aA (l.length:Int)),.fn 97 [] []] [some (.row 63 l.length (l.flatten.map aA))] (.tup []) [some (.row 63 (isort (ltK 2) l).length ((isort (ltK 2) l).flatten.map aA))]:=by
 have hui:∀ i,uni 3 (isort (ltK 2) (l.take i)):=fun i y hy=>hu y (List.mem_of_mem_take ((isort_mem (ltK 2) _ y).1 hy))
 have key:∀ d i,i+d=l.length→1≤i→aE Tp 1 bAw (nA l i (isort (ltK 2) (l.take i)++l.drop i).length ((isort (ltK 2) (l.take i)++l.drop i).flatten.map aA)) (.exit 0) (nA l l.length (isort (ltK 2) l).length ((isort (ltK 2) l).flatten.map aA)):=by
  intro d
  induction d with
  | zero =>
   intro i hi _;obtain rfl:i=l.length:=by omega
   rw [List.take_length,List.drop_length,List.append_nil];exact .exit (aEb (by omega)) (by simp)
  | succ d ih =>
   intro i hi h1;have hlt:i<l.length:=by omega
   have hx:=hu l[i] (eE hlt);generalize hxx:l[i]=x at hx
   obtain ⟨x0,x1,x2,rfl⟩:=Gp hx;have hAl:(isort (ltK 2) (l.take i)).length=i:=by rw [isort_length,kV];omega
   have hdr:l.drop i=[x0,x1,x2]::l.drop (i+1):=by rw [aFy hlt,hxx]
   have hin:=cCm l i (isort (ltK 2) (l.take i)) (l.drop (i+1)) (by omega) hAl.symm x0 x1 x2 (by
    intro y hy
    rcases dY.1 hy with h | h
    ·exact hui i y h
    ·rcases eO.1 h with rfl | h
     ·rfl
     ·exact hu y (List.mem_of_mem_drop h)) i (by omega) (fun t ht h2=>by omega)
   have hmv:mv (isort (ltK 2) (l.take i)) [x0,x1,x2] i (l.drop (i+1))=isort (ltK 2) (l.take i)++l.drop i:=by
    have:=mv_end (isort (ltK 2) (l.take i)) [x0,x1,x2] (l.drop (i+1));rw [hAl] at this;rw [this,hdr]
   have hsn:=isort_snoc (ltK 2) l i hlt;rw [hxx] at hsn
   rw [hmv,← hsn] at hin
   exact .step (aVw (by omega) hin (by show _∧_;omega) rfl rfl rfl) (ih (i+1) (by omega) (by omega))
 rcases Nat.eq_zero_or_pos l.length with h0 | hp
 ·have:l=[]:=sO h0
  subst this;exact bAy (aE.exit (aEb (l:=[]) (L:=[]) (i:=1) (by simp)) (by simp))
 ·have:=key (l.length-1) 1 (by omega) (by omega)
  have e1:isort (ltK 2) (l.take 1)++l.drop 1=l:=by
   cases l with
   | nil=>simp at hp
   | cons x r=>simp [isort,ins,insPos]
  rw [e1] at this
  exact bAy this
def aBa(l:Lqq):St:=⟨fr 63 [(0,(.own 0)),(1,(pI (l.length:Int))),(2,(.fn 97 [] [])),(6,(pI 20)),(7,(pI 0)),(8,(pI 20))],[some (.row 63 l.length (l.flatten.map aA))]⟩
def aBb(l:Lqq):St:=⟨fr 63 [(0,(.own 0)),(1,(pI (l.length:Int))),(2,(.fn 97 [] [])),(6,(pI 20)),(7,(pI 0)),(8,(pI 20))],[some (.row 63 ((isort (ltK 2) l).length) ((isort (ltK 2) l).flatten.map aA))]⟩
theorem bVg(hl0:aE Tp 1 (sub (cd Tryz.f166) de) (aBa l) (.exit 0) (aBa l))(h1:uni 3 l)(h2:l.length<1000)(Cw:aE Tp 1 (sub (cd Tryz.f166) cz) (aBb l) (.exit 2) (aBb l)):FMM Tp 166 [(.own 0),(pI (l.length:Int)),(.fn 97 [] [])] [some (.row 63 l.length (l.flatten.map aA))] (.tup []) [some (.row 63 ((isort (ltK 2) l).length) ((isort (ltK 2) l).flatten.map aA))]:=have k1:=mq [0] 1 (bVf l h1 h2);FMM.fi 1 gE func166 [hl0.k 6 (gZ az),k1.o,Cw.k 1 (gZ df)] (gc Cw.code (gc k1 (gc hl0.code gn)))
theorem aWa(h0:(l.length:Int)<20):aB Tp 1 (sub (cd Tryz.f166) de) (aBa l) (.exit 0) (aBa l):=aB.fi (gZ az) [bF] (gc (jZ h0) gn)
theorem aWb(h0:(l.length:Int)≤20):aB Tp 1 (sub (cd Tryz.f166) cz) (aBb l) (.exit 2) (aBb l):=aB.fi (gZ df) [bF] (gc (aQ h0) gn)
theorem bVh(l:Lqq)(hu:uni 3 l)(hn:l.length<20):FMM Tp 166 [.own 0,.p (aA (l.length:Int)),.fn 97 [] []] [some (.row 63 l.length (l.flatten.map aA))] (.tup []) [some (.row 63 (isort (ltK 2) l).length ((isort (ltK 2) l).flatten.map aA))] := 
 bVg (aE.exit (aWa (by omega)) (by simp)) hu (by omega) (aE.exit (aWb (by omega)) (by simp))
theorem bVi(h0:uni 3 l)(h1:l.length<20):FMM Tp 96 [(.own 0),(.fn 97 [] [])] [some (.row 63 l.length (l.flatten.map aA))] (.tup []) [some (.row 63 ((isort (ltK 2) l).length) ((isort (ltK 2) l).flatten.map aA))]:=have k1:=mq [0] 1 (bVh l h0 h1);FMM.fi 1 gE func96 [k1.o] (gc k1 gn)
theorem cCn(l:Lqq)(hu:uni 3 l)(hn:l.length<20):FMM Tp 96 [.own 0,.fn 97 [] []] [some (.row 63 l.length (l.flatten.map aA))] (.tup []) [some (.row 63 (isort (ltK 2) l).length ((isort (ltK 2) l).flatten.map aA))]:=bVi hu hn
end
section
variable {Jd:Bool}{n102 Aa Ab A9 Av A0 A1 Bb Au:Int}{t t' Db T104:Lqb}{L p q L' En E0:Lqq}{i j i' j':Nat}{ov:PV}
variable {dl:Int}{sk dc:Lqq}

noncomputable abbrev aDz:Code:=sub (cd Tryz.f53) [1,1,1,1,0,1,0,0]
noncomputable abbrev aLk:Code:=sub (cd Tryz.f53) [1,1,0,1,0,0]
theorem aEa{cs:List PV}{a b:Nat}{v x:PV}(hn:a≠b)(h:cs[b]? = some x):(cs.set a v)[b]? = some x:=by rw [List.getElem?_set_ne hn];exact h
abbrev cFw(dl:Int)(sk dc:Lqq)(ov:PV)(R:Lqq)(T T2:Lqb):Prop:=FMM Tp 53 [aPf dl sk dc,cBj] (pH dl sk dc ov T) (.own 7) (pH dl sk dc ov T2++[some (.row 63 R.length (R.flatten.map aA))])
def nL(dl:Int)(sk dc:Lqq)(ov:PV)(pn:Nat)(pc:List PV)(qn:Nat)(qc:List PV)(i:Nat)(te:List (Value × PV))(tk:Nat):St:=⟨fr 87 [(0,(.rp (aU dl sk dc) 0)),(3,(.ptr 7 0)),(4,(.p cX)),(5,(.own 8)),(6,(.own 9)),(16,(.p (fS sk))),(17,(pI (sk.length:Int))),(18,(pI (i:Int)))],[some (.box 106 [(.rp (aU dl sk dc) 0)]),some (.box 31 [(.p ov)]),some (.box 119 [(.fn 100 [] [(.ptr 4 0),(.ptr 5 0),(.ptr 0 0),(.ptr 2 0)]),(.fn 102 [] [(.ptr 6 0)]),(.fn 103 [] [(.ptr 2 0),(.ptr 1 0)]),(.fn 106 [] [(.ptr 2 0)]),(.fn 104 [] [(.ptr 6 0)])]),some (.mp te tk),some (.box 183 [(.mp 3)]),some (.box 115 [(.fn 98 [(.rp (aU dl sk dc) 0)] [])]),some (.box 185 [(.fn 99 [] [(.ptr 0 0),(.ptr 2 0)])]),some (.box 119 [(.fn 100 [] [(.ptr 4 0),(.ptr 5 0),(.ptr 0 0),(.ptr 2 0)]),(.fn 102 [] [(.ptr 6 0)]),(.fn 103 [] [(.ptr 2 0),(.ptr 1 0)]),(.fn 106 [] [(.ptr 2 0)]),(.fn 104 [] [(.ptr 6 0)])]),some (.row 63 pn pc),some (.row 63 qn qc)]⟩
def jQ(dl:Int)(sk dc:Lqq)(ov:PV)(En E0:Lqq)(Db:Lqb)(Ln:Nat)(Lc:List PV)(j:Nat):St:=⟨fr 87 [(4,(.p cX)),(5,(.own 7)),(6,(.own 8)),(47,(pI ((isort (ltK 2) En).length:Int))),(48,(pI (j:Int)))],[some (.box 106 [(.rp (aU dl sk dc) 0)]),some (.box 31 [(.p ov)]),some (.box 119 [(.fn 100 [] [(.ptr 4 0),(.ptr 5 0),(.ptr 0 0),(.ptr 2 0)]),(.fn 102 [] [(.ptr 6 0)]),(.fn 103 [] [(.ptr 2 0),(.ptr 1 0)]),(.fn 106 [] [(.ptr 2 0)]),(.fn 104 [] [(.ptr 6 0)])]),some (.mp (aK Db) Db.length),some (.box 183 [(.mp 3)]),some (.box 115 [(.fn 98 [(.rp (aU dl sk dc) 0)] [])]),some (.box 185 [(.fn 99 [] [(.ptr 0 0),(.ptr 2 0)])]),some (.row 63 Ln Lc),some (.row 63 E0.length (E0.flatten.map aA))]⟩
theorem cCk{T:Lqb}{Kr:Nat}{L'4:Lqq}{Ur Hj:Nat}{Hk:List PV}(hl0:aE Tp 7 aLk (nL dl sk dc ov 0 [] 0 [] 0 (aK T) T.length) (.exit 0) (nL dl sk dc ov En.length (En.flatten.map aA) E0.length (E0.flatten.map aA) Kr (aK Db) Db.length))(h1:uni 3 En)(h2:En.length<20)(Cw:aE Tp 7 aDz (jQ dl sk dc ov En E0 Db ((isort (ltK 2) En).length) ((isort (ltK 2) En).flatten.map aA) 0) (.exit 2) (jQ dl sk dc ov En E0 Db L'4.length (L'4.flatten.map aA) Ur))(h4:(E0.flatten.map aA).length=E0.length*3∧L'4.length+E0.length≤1000000)(Gx:Hj=(L'4.length+E0.length))(Gy:Hk=((L'4.flatten.map aA)++(E0.flatten.map aA))):FMM Tp 53 [(.rp (aU dl sk dc) 0),(.agg [(.fn 100 [] [(.ptr 4 0),(.ptr 5 0),(.ptr 0 0),(.ptr 2 0)]),(.fn 102 [] [(.ptr 6 0)]),(.fn 103 [] [(.ptr 2 0),(.ptr 1 0)]),(.fn 106 [] [(.ptr 2 0)]),(.fn 104 [] [(.ptr 6 0)])])] [some (.box 106 [(.rp (aU dl sk dc) 0)]),some (.box 31 [(.p ov)]),some (.box 119 [(.fn 100 [] [(.ptr 4 0),(.ptr 5 0),(.ptr 0 0),(.ptr 2 0)]),(.fn 102 [] [(.ptr 6 0)]),(.fn 103 [] [(.ptr 2 0),(.ptr 1 0)]),(.fn 106 [] [(.ptr 2 0)]),(.fn 104 [] [(.ptr 6 0)])]),some (.mp (aK T) T.length),some (.box 183 [(.mp 3)]),some (.box 115 [(.fn 98 [(.rp (aU dl sk dc) 0)] [])]),some (.box 185 [(.fn 99 [] [(.ptr 0 0),(.ptr 2 0)])])] (.own 7) [some (.box 106 [(.rp (aU dl sk dc) 0)]),some (.box 31 [(.p ov)]),some (.box 119 [(.fn 100 [] [(.ptr 4 0),(.ptr 5 0),(.ptr 0 0),(.ptr 2 0)]),(.fn 102 [] [(.ptr 6 0)]),(.fn 103 [] [(.ptr 2 0),(.ptr 1 0)]),(.fn 106 [] [(.ptr 2 0)]),(.fn 104 [] [(.ptr 6 0)])]),some (.mp (aK Db) Db.length),some (.box 183 [(.mp 3)]),some (.box 115 [(.fn 98 [(.rp (aU dl sk dc) 0)] [])]),some (.box 185 [(.fn 99 [] [(.ptr 0 0),(.ptr 2 0)])]),some (.row 63 Hj Hk)]:=by
 subst Gx Gy;have k1:=mq [8] 10 (cCn En h1 h2);exact FMM.fi 7 ⟨[],[9],[],[]⟩ func53 [.x (fS sk),hl0.k 1 (gN ba [7,8,9] [(5,63),(6,63)]),k1.o,Cw.k 4 (gI cg [8,9])] (gc h4 (gc Cw.code (gc k1 (gc hl0.code (gr (fS sk) gn)))))
section
variable(h0:(i:Int)<(sk.length:Int))(h1:sk[i]? = some [Aa,Ab])(h2:uni 2 sk)(h3:cAs dl sk dc ov [Aa,Ab] n102 Jd t T104)
include h0 h1 h2 h3
theorem bGm{q':Lqq}(h4:Jd=true)(h5:[(aA Aa),(aA (-1)),(aA 0)].length=1*3∧q.length+1≤1000000)(h6:di i)(Qg:q'.length=(q.length+1))(Qh:q'.flatten.map aA=((q.flatten.map aA)++[(aA Aa),(aA (-1)),(aA 0)]))(Ai:i'=(i+1))(A6:aK t'=(aK T104))(A7:t'.length=T104.length):aB Tp 7 aLk (nL dl sk dc ov p.length (p.flatten.map aA) q.length (q.flatten.map aA) i (aK t) t.length) .normal (nL dl sk dc ov p.length (p.flatten.map aA) q'.length (q'.flatten.map aA) i' (aK t') t'.length):=by
 subst Ai;have k1:=mq cn 11 h3;rw [Qg,Qh,A6,A7];exact aB.fi (gI ba [7,8,12]) [bT,.x (.agg [(aA Aa),(aA Ab)]),k1.o,bT] (gc h6 (gc h5 (gt ([(aA Aa),(aA (-1)),(aA 0)].length=3) (by first | decide | simp) (gc h4 (gc k1 (gfl h2 h1 (g0 h0)))))))
theorem bGn{p':Lqq}(h4:Jd=false)(h5:[(aA Aa),(aA 0),(aA n102)].length=1*3∧p.length+1≤1000000)(h6:di i)(Ic:p'.length=(p.length+1))(Ie:p'.flatten.map aA=((p.flatten.map aA)++[(aA Aa),(aA 0),(aA n102)]))(Ai:i'=(i+1))(A6:aK t'=(aK T104))(A7:t'.length=T104.length):aB Tp 7 aLk (nL dl sk dc ov p.length (p.flatten.map aA) q.length (q.flatten.map aA) i (aK t) t.length) .normal (nL dl sk dc ov p'.length (p'.flatten.map aA) q.length (q.flatten.map aA) i' (aK t') t'.length):=by
 subst Ai;have k1:=mq cn 11 h3;rw [Ic,Ie,A6,A7];exact aB.fi (gI ba [7,12,9]) [bT,.x (.agg [(aA Aa),(aA Ab)]),k1.o,bF] (gc h6 (gc h5 (gt ([(aA Aa),(aA 0),(aA n102)].length=3) (by first | decide | simp) (gc h4 (gc k1 (gfl h2 h1 (g0 h0)))))))
end
theorem bGo(h0:(sk.length:Int)≤(i:Int)):aB Tp 7 aLk (nL dl sk dc ov p.length (p.flatten.map aA) q.length (q.flatten.map aA) i (aK t) t.length) (.exit 0) (nL dl sk dc ov p.length (p.flatten.map aA) q.length (q.flatten.map aA) i (aK t) t.length):=aB.fi (gI ba [7,8,9]) [bF] (gc (aQ h0) gn)
section
variable(h0:(j:Int)<((isort (ltK 2) En).length:Int))(h1:inR (((j+1):Nat):Int))(h2:L[j]? = some [A9,Av,A0])(h3:((j*3)+1)<(L.flatten.map aA).length)
include h0 h1 h2 h3
theorem bGp(h4:(0:Int)<(j:Int))(h5:uni 3 L)(h6:inR ((j:Int)-1))(h7:L[((j:Int)-1).toNat]? = some [A1,Bb,Au])(h8:0≤((j:Int)-1))(h9:A0=Au)(A5:((j*3)+1)<((L.flatten.map aA).set ((j*3)+1) (aA (((j+1):Nat):Int))).length)(Cm:L'.length=L.length)(Cn:L'.flatten.map aA=(((L.flatten.map aA).set ((j*3)+1) (aA (((j+1):Nat):Int))).set ((j*3)+1) (aA Bb)))(C6:j'=(j+1)):aB Tp 7 aDz (jQ dl sk dc ov En E0 Db L.length (L.flatten.map aA) j) .normal (jQ dl sk dc ov En E0 Db L'.length (L'.flatten.map aA) j'):=by
 subst C6;rw [Cm,Cn];exact aB.fi (gI cg [7,8]) (rT 6++[.x (aA A0)]++rT 6++[.x (aA Au),bT,bT,bT,.x (aA Bb)]) (gc h1 (gc A5 (gc (aZ (i:=(j:Int)) (jA _) h2) (gt (((L.flatten.map aA).set ((j*3)+1) (aA (((j+1):Nat):Int)))[((((j:Int)-1).toNat*3)+1)]? = some (aA Bb)) (aEa (by omega) (dL (i:=((j:Int)-1).toNat) (f:=1) h5 h7 rfl)) (gc (aZ (i:=((j:Int)-1)) h8 h7) (gc h6 (gc (cF h9) (Ap (bD h4) (gt (((L.flatten.map aA).set ((j*3)+1) (aA (((j+1):Nat):Int)))[((((j:Int)-1).toNat*3)+2)]? = some (aA Au)) (aEa (by omega) (dL (i:=((j:Int)-1).toNat) (f:=2) h5 h7 rfl)) (Ap (bD h4) (gc (aZ (i:=((j:Int)-1)) h8 h7) (gc (bD h4) (gc h6 (Aq (bD h4) (gt (((L.flatten.map aA).set ((j*3)+1) (aA (((j+1):Nat):Int)))[((j*3)+2)]? = some (aA A0)) (aEa (by omega) (dL (i:=j) (f:=2) h5 h2 rfl)) (Ap (bD h4) (gc (aZ (i:=(j:Int)) (jA _) h2) (Aq (bD h4) (gc h3 (gc (aZ (i:=(j:Int)) (jA _) h2) (gc h1 (g0 h0))))))))))))))))))))))
theorem bGq(h4:(0:Int)<(j:Int))(h5:uni 3 L)(h6:inR ((j:Int)-1))(h7:L[((j:Int)-1).toNat]? = some [A1,Bb,Au])(h8:0≤((j:Int)-1))(h9:A0≠Au)(Cm:L'.length=L.length)(Cn:L'.flatten.map aA=((L.flatten.map aA).set ((j*3)+1) (aA (((j+1):Nat):Int))))(C6:j'=(j+1)):aB Tp 7 aDz (jQ dl sk dc ov En E0 Db L.length (L.flatten.map aA) j) .normal (jQ dl sk dc ov En E0 Db L'.length (L'.flatten.map aA) j'):=by
 subst C6;rw [Cm,Cn];exact aB.fi (gI cg [7,8]) (rT 6++[.x (aA A0)]++rT 6++[.x (aA Au),bT,bT,bF]) (gc h1 (gc (bK h9) (Ap (bD h4) (gt (((L.flatten.map aA).set ((j*3)+1) (aA (((j+1):Nat):Int)))[((((j:Int)-1).toNat*3)+2)]? = some (aA Au)) (aEa (by omega) (dL (i:=((j:Int)-1).toNat) (f:=2) h5 h7 rfl)) (Ap (bD h4) (gc (aZ (i:=((j:Int)-1)) h8 h7) (gc (bD h4) (gc h6 (Aq (bD h4) (gt (((L.flatten.map aA).set ((j*3)+1) (aA (((j+1):Nat):Int)))[((j*3)+2)]? = some (aA A0)) (aEa (by omega) (dL (i:=j) (f:=2) h5 h2 rfl)) (Ap (bD h4) (gc (aZ (i:=(j:Int)) (jA _) h2) (Aq (bD h4) (gc h3 (gc (aZ (i:=(j:Int)) (jA _) h2) (gc h1 (g0 h0)))))))))))))))))
theorem bGr(h4:(j:Int)≤0)(Cm:L'.length=L.length)(Cn:L'.flatten.map aA=((L.flatten.map aA).set ((j*3)+1) (aA (((j+1):Nat):Int))))(C6:j'=(j+1)):aB Tp 7 aDz (jQ dl sk dc ov En E0 Db L.length (L.flatten.map aA) j) .normal (jQ dl sk dc ov En E0 Db L'.length (L'.flatten.map aA) j'):=by
 subst C6;rw [Cm,Cn];exact aB.fi (gI cg [7,8]) ([bT]++rF 13) (gc h1 (Fy (aQ h4) (B7 (aQ h4) (gc h3 (gc (aZ (i:=(j:Int)) (jA _) h2) (gc h1 (g0 h0)))))))
end
theorem bGs(h0:((isort (ltK 2) En).length:Int)≤(j:Int)):aB Tp 7 aDz (jQ dl sk dc ov En E0 Db L.length (L.flatten.map aA) j) (.exit 2) (jQ dl sk dc ov En E0 Db L.length (L.flatten.map aA) j):=aB.fi (gI cg [7,8]) [bF] (gc (aQ h0) gn)
theorem cCl{dl:Int}{sk dc R0:Lqq}{T1:Lqb}(h0:fQ dl sk dc)(h1:cFw dl (aW sk) (aW dc) cX R0 ([]:Lqb) T1){base:Nat}:FV Tp 25 [(.p (.agg (qZ dl sk dc)))] base (.tup [(.own base),(pI 0)]) [(base,(.row 63 R0.length (R0.flatten.map aA)))]:=have k1:=fk 1 (bUr dl sk dc h0) rfl;have k2:=mN [] 1 (bUo (dl:=dl) (sk:=(aW sk)) (dc:=(aW dc)));have k3:=mq [1,2,3,4,5,6,7] 8 h1;FV.fi func25 [k1.o,bF,k2.o,k3.o] (gc k3 (gc k2 (gt (((0:Int) != 0)=false) (by first | decide | simp) (gc k1 gn))))
end
section

end
end KV
end Go.Proofs
section
namespace Go.Proofs
open Go.RowKit
namespace KV
open Tryz
attribute [local go_sem] Oper.semAt_some
section
variable {P:Program}
end
abbrev stA(l:Nat)(q:List Int)(n8:Int)(s:Nat):St:=⟨fr 35 [(0,.yld l),(1,.rp [aC q] 0),(8,.p (aA n8)),(9,.p (aA (s:Int)))],[]⟩
abbrev stB(l:Nat)(q:List Int)(n8:Int)(s:Nat)(o:List Int)(i:Nat):St:=⟨fr 35 [(0,.yld l),(1,.rp [aC q] 0),(3,.p (aA (s:Int))),(4,.own 0),(8,.p (aA n8)),(9,.p (aA (s:Int))),(13,.p (aA (q.length:Int))),(14,.p (aA (i:Int)))],[some (.row 3 o.length (o.map aA))]⟩
end KV
end Go.Proofs
end
section
namespace Go.Proofs
open Go.RowKit
namespace KV
open Tryz
end KV
end Go.Proofs
end
namespace Go.Proofs
namespace KV
open Tryz
section

end
section
end
section
open Go.RowKit Go.Lib Go.Shelf
theorem cCi{n:Nat}{x:PV}{r:List PV}{Hj:Nat}{Hk:List PV}(h0:(x::r).length=n*1∧0+n≤1000000)(Gx:Hj=(0+n))(Gy:Hk=(x::r)){base:Nat}:FV Tp 107 [(.p (.sl n (x::r)))] base (.own base) [(base,(.row 3 Hj Hk))]:=by
 subst Gx Gy;exact FV.fi func107 [] (gc h0 gn)
set_option maxHeartbeats 1000000 in
theorem bVe(n c:Nat)(w:World):Calls Tp 107 #[.slice none n c] w fun e w'=>e = .returned (.slice none 0 0)∧w'=w:=by
 have Uq:∀ (w:World) (a:Option Addr) (n c n' c':Nat),(binOp .eql 31 (.slice a n c) (.slice none n' c')).run Tp w = .ok (.bool a.isNone) w:=fun w a n c n' c'=>Lib.run_eql_slice_nil w _ _ a n c n' c' Tryz.underlying31
 go_enter func107,Tryz.ntmps107
 go_wp2
 go_ret
 exact ⟨rfl,rfl⟩
theorem Qf:(Tryz.prog.info? 3).map (fun i=>(i.zero,i.size,i.bytes))=some (some (.int .i64 0),1,8):=by kernel_rfl
set_option maxHeartbeats 2000000 in
theorem bOh(a:Addr)(c:Nat)(w:World):Calls Tp 107 #[.slice (some a) 0 c] w fun e w'=>∃ v',e = .returned v'∧w'.ownsRow w.heap.size 3 1 v' 0 []∧Below w.heap.size w w':=by
 obtain ⟨i0,hi,Ls,D5,Iv⟩:=info_parts Qf;have Uq:∀ (w:World) (a:Option Addr) (n c n' c':Nat),(binOp .eql 31 (.slice a n c) (.slice none n' c')).run Tp w = .ok (.bool a.isNone) w:=fun w a n c n' c'=>Lib.run_eql_slice_nil w _ _ a n c n' c' Tryz.underlying31
 go_enter func107,Tryz.ntmps107
 go_wp2_with (at_builtin;refine wpList_append_own _ rfl _ _ 31 rfl w.heap.size 3 i0 (.int .i64 0) 1 8 Tryz.underlying31 hi Ls D5 Iv rfl (by decide) _ _ _ rfl (World.ownsRow_made w #[] 0 (dJ _) (Nat.zero_le _) rfl) a 0 c [] rfl rfl (by intro j u hj;simp at hj) (by intro u hu;cases hu) (by unfold maxLen;omega) (by omega) (by simp) ?_)
 intro v' w1 hown hgrow hnil
 go_wp2
 go_ret
 refine ⟨v',rfl,by simpa using hown,?_⟩
 exact ((Below.refl _ w).alloc (dJ _) _).grown hgrow (by simp) (by intro k hk;simp [Value.ownBlock] at hk;omega)
theorem bGl{base:Nat}:FV Tp 107 [.p (.sl 0 [])] base (.own base) [(base,.row 3 0 [])]:=bEs (sD (show (Tryz.prog.info? 3).map (fun i=>i.size)=some 1 by kernel_rfl)) fun p c w=>by
 cases p with
 | none =>
  refine (bVe 0 c w).mono ?_;rintro e w' ⟨rfl,rfl⟩;exact ⟨_,rfl,World.ownsRow_nil _ _ _ _,Below.refl _ _⟩
 | some a=>exact bOh a c w
theorem cCj(l:List Int)(hl:l.length≤1000){base:Nat}:FV Tp 107 [.p (aC l)] base (.own base) [(base,.row 3 l.length (l.map aA))]:=by
 cases l with
 | nil=>exact bGl
 | cons x l=>exact cCi (n:=(x::l).length) (x:=aA x) (r:=l.map aA) ⟨by simp,by simp at hl ⊢;omega⟩ (by simp) rfl
end
section

end
section
section
variable {α:Type} {E:α→List PV} {k:Nat}
end
end
section
abbrev far:Int:=1099511627776
end
section
end
end KV
end Go.Proofs
section
namespace Go.Proofs
open Go.Shelf
def Tryz.lays189_ren:Go.Shelf.Ren:=⟨fun | 189=>161 | 125=>195 | 257=>209 | 128=>231 | 129=>232 | 294=>255 | 295=>256 | 296=>257 | 297=>258 | 298=>259 | 299=>260 | 216=>261 | 300=>262 | 301=>263 | 328=>284 | 329=>271 | 330=>272 | 331=>285 | 332=>286 | 215=>124 | 343=>294 | n=>n,fun | 28=>31 | 3=>3 | 46=>266 | 0=>0 | 51=>94 | 53=>288 | 4=>4 | 183=>281 | 182=>280 | 131=>179 | 5=>5 | 9=>9 | 218=>307 | 222=>311 | 228=>322 | 229=>236 | n=>n,fun | n=>n⟩
theorem Tryz.lays189:Go.Proofs.Lays.n189 Tryz.prog Tryz.lays189_ren:={
 mixed:=by kernel_rfl
 f125:=func195.trans (congrArg some (by kernel_rfl))
 f128:=func231.trans (congrArg some (by kernel_rfl))
 f129:=func232.trans (congrArg some (by kernel_rfl))
 f189:=func161.trans (congrArg some (by kernel_rfl))
 f215:=func124.trans (congrArg some (by kernel_rfl))
 f216:=func261.trans (congrArg some (by kernel_rfl))
 f257:=func209.trans (congrArg some (by kernel_rfl))
 f294:=func255.trans (congrArg some (by kernel_rfl))
 f295:=func256.trans (congrArg some (by kernel_rfl))
 f296:=func257.trans (congrArg some (by kernel_rfl))
 f297:=func258.trans (congrArg some (by kernel_rfl))
 f298:=func259.trans (congrArg some (by kernel_rfl))
 f299:=func260.trans (congrArg some (by kernel_rfl))
 f300:=func262.trans (congrArg some (by kernel_rfl))
 f301:=func263.trans (congrArg some (by kernel_rfl))
 f328:=func284.trans (congrArg some (by kernel_rfl))
 f329:=func271.trans (congrArg some (by kernel_rfl))
 f330:=func272.trans (congrArg some (by kernel_rfl))
 f331:=func285.trans (congrArg some (by kernel_rfl))
 f332:=func286.trans (congrArg some (by kernel_rfl))
 f343:=func294.trans (congrArg some (by kernel_rfl))
 t0:=Tryz.underlying0
 a0:=Tryz.isAgg0
 z0:=Tryz.sizeOf0
 v0:=Tryz.zeroValue0
 t3:=Tryz.underlying3
 a3:=Tryz.isAgg3
 z3:=Tryz.sizeOf3
 v3:=Tryz.zeroValue3
 t4:=Tryz.underlying4
 a4:=Tryz.isAgg4
 z4:=Tryz.sizeOf4
 v4:=Tryz.zeroValue4
 t5:=Tryz.underlying5
 a5:=Tryz.isAgg5
 z5:=Tryz.sizeOf5
 v5:=Tryz.zeroValue5
 t9:=Tryz.underlying9
 a9:=Tryz.isAgg9
 z9:=Tryz.sizeOf9
 v9:=Tryz.zeroValue9
 t28:=Tryz.underlying31
 a28:=Tryz.isAgg31
 z28:=Tryz.sizeOf31
 v28:=Tryz.zeroValue31
 t46:=Tryz.underlying266
 a46:=Tryz.isAgg266
 z46:=Tryz.sizeOf266
 v46:=Tryz.zeroValue266
 t51:=Tryz.underlying94
 a51:=Tryz.isAgg94
 z51:=Tryz.sizeOf94
 v51:=Tryz.zeroValue94
 t53:=Tryz.underlying288
 a53:=Tryz.isAgg288
 z53:=Tryz.sizeOf288
 v53:=Tryz.zeroValue288
 t131:=Tryz.underlying179
 a131:=Tryz.isAgg179
 z131:=Tryz.sizeOf179
 v131:=Tryz.zeroValue179
 t182:=Tryz.underlying280
 a182:=Tryz.isAgg280
 z182:=Tryz.sizeOf280
 v182:=Tryz.zeroValue280
 t183:=Tryz.underlying281
 a183:=Tryz.isAgg281
 z183:=Tryz.sizeOf281
 v183:=Tryz.zeroValue281
 t218:=Tryz.underlying307
 a218:=Tryz.isAgg307
 z218:=Tryz.sizeOf307
 v218:=Tryz.zeroValue307
 t222:=Tryz.underlying311
 a222:=Tryz.isAgg311
 z222:=Tryz.sizeOf311
 v222:=Tryz.zeroValue311
 t228:=Tryz.underlying322
 a228:=Tryz.isAgg322
 z228:=Tryz.sizeOf322
 v228:=Tryz.zeroValue322
 t229:=Tryz.underlying236
 a229:=Tryz.isAgg236
 z229:=Tryz.sizeOf236
 v229:=Tryz.zeroValue236 }
open Go.Sort Go.RowKit in
theorem Tryz.slices_Sort_int(blk off cap:Nat)(zs:List Int)(w:World)(hH:Holds (Value.int .i64) w blk off zs.toArray)(hblk:blk<w.heap.size)(hsz:zs.length<4611686018427387904) :
  Calls Tryz.prog 161 #[.slice (some ⟨blk,off,none⟩) zs.length cap] w fun e w' =>
   e = .returned (.tuple #[])∧∃ n os,w'=grow (putRow (Value.int .i64) (Sort.ahead w n) blk off (zs.mergeSort fun x y=>decide (x≤y)).toArray) os:=Any.slices_Sort_int Tryz.lays189 blk off cap zs w hH hblk hsz
theorem Tryz.slices_Sort_int_none(p:Option Addr)(cap:Nat)(w:World) :
  Calls Tryz.prog 161 #[.slice p 0 cap] w fun e w'=>e = .returned (.tuple #[])∧w'=w:=Any.slices_Sort_int_none Tryz.lays189 p cap w
end Go.Proofs
end
section
namespace Go.Proofs
open Go.RowKit Go.Lib Go.Sort
namespace KL
def OwnI(w:World)(base:Nat)(v:Value)(l:List Int):Prop:=w.ownsRow base 3 1 v l.length (l.map (Value.int .i64))

def leB:Int→Int→Bool:=fun x y=>decide (x≤y)

theorem bOi(base:Nat)(v:Value)(l:List Int)(w:World)(hv:OwnI w base v l)(hlen:l.length≤1000000) :
  Calls Tryz.prog 161 #[v] w fun e w'=>e = .returned (.tuple #[])∧OwnI w' base v (l.mergeSort leB)∧w.grownBy w' v.ownBlock:=by
 have hown:=hv
 rcases hv.2 with ⟨rfl,h0⟩ | ⟨g,cap,cur,rfl,hb,hg,hn,hm,hs,ht⟩
 ·have:l=[]:=List.eq_nil_of_length_eq_zero h0
  subst this;refine (Tryz.slices_Sort_int_none none 0 w).mono ?_;rintro e w' ⟨rfl,rfl⟩;exact ⟨rfl,by simpa using hown,World.grownBy.refl _ _⟩
 ·have hlt:=lt_of_block hg
  refine (Tryz.slices_Sort_int g 0 cap l w (holds_of_blockI hg (by simpa using ht)) hlt (by omega)).mono ?_
  rintro e w' ⟨rfl,n,os,rfl⟩;refine ⟨rfl,?_,grownBy_sortedI _⟩;have hl:(l.mergeSort leB).length=l.length:=List.length_mergeSort l;unfold OwnI;rw [hl];exact ownsRow_sortedI hl hb hg hn hm hs

end KL
open KL
namespace KV
open Tryz
open Go.Shelf
variable {P:Program} {C:Cx} {M:Mem} {w w':World}
abbrev fA(l:List Int):AO := .row 3 l.length (l.map aA)
theorem aPt{F:Nat→Prop}{cur:Array Value}{l:List Int}(hle:l.length≤cur.size)(h:∀ j (hj:j<(l.map aA).length),bQ F w (l.map aA)[j] (cur.getD j undef)):cur.toList.take l.length=l.map (Value.int .i64):=by
 apply List.ext_getElem
 ·simp;omega
 ·intro i h1 h2
  have hi:i<l.length:=by simpa using h2
  have:=h i (by simpa using hi)
  rw [List.getElem_map] at this
  rw [List.getElem_map,List.getElem_take];cases hx:cur.getD i undef with
  | int k z =>
   rw [hx] at this
   cases this;rw [Array.getD_eq_getD_getElem?,Array.getElem?_eq_getElem (by omega)] at hx
   simpa using hx
  | _=>rw [hx] at this;cases this
theorem wJ(F:Nat→Prop){cur:Array Value}{l:List Int}(h:cur.toList.take l.length=l.map (Value.int .i64)):(∀ j (hj:j<(l.map aA).length),bQ F w (l.map aA)[j] (cur.getD j undef))∧∀ j,j<(l.map aA).length→(cur.getD j undef).oneCell'=true:=by
 have key:∀ j (hj:j<l.length),cur.getD j undef = .int .i64 l[j]:=fun j hj=>by
  have h1:=congrArg (fun x=>x[j]?) h
  simp only [List.getElem?_take,hj,if_true,List.getElem?_map,List.getElem?_eq_getElem hj,Option.map_some,Array.getElem?_toList] at h1
  rw [Array.getD_eq_getD_getElem?,h1];rfl
 refine ⟨fun j hj => ?_,fun j hj => ?_⟩
 ·have B6:j<l.length:=by simpa using hj
  rw [List.getElem_map,key j B6];exact .v _
 ·rw [key j (by simpa using hj)];rfl

theorem Gb:∃ i,Tryz.prog.info? 3=some i∧i.size=1:=sD (show (Tryz.prog.info? 3).map (fun i=>i.size)=some 1 by kernel_rfl)
theorem aWf{id:Nat}{l:List Int}{u:Value}(hM:aP Tryz.prog C M w)(ho:M[id]? = some (some (fA l)))(h:Rep C M w (.own id) u):OwnI w 0 u l:=by
 refine ⟨by simp,?_⟩
 cases h with
 | own _ _ h0 ha hr =>
  rcases hr _ _ _ ho with ⟨rfl,_,hn⟩ | ⟨b,rfl,hb⟩
  ·exact .inl ⟨rfl,hn⟩
  ·rcases hM.row _ _ _ _ ho with ⟨E1,_⟩ | ⟨b',arr,inf,Al,q1,q2,q3,q4,q5,q6,q7,q8⟩
   ·rw [hb] at E1;cases E1
   ·rw [hb] at Al;cases Al
    obtain ⟨i,hi,hs⟩:=Gb;rw [hi] at q2;cases q2
    exact .inr ⟨b,_,arr,rfl,Nat.zero_le _,q1,q5,q6,by rw [q3,hs],by rw [Nat.mul_one];exact aPt (by rw [q3,hs];omega) q7⟩

theorem yL{l l':List Int}{u u':Value}{d:Bool}(hM:aP Tryz.prog C [some (fA l)] w)(h:Rep C [some (fA l)] w (.own 0) u)(hown:OwnI w' 0 u' l')(hg:w.grownBy w' u.ownBlock)
  (hb:u'.ownBlock=u.ownBlock) (hd:d=false→u'=u∧l'.length=l.length) :
  ∃ C',Fr C [some (fA l)] w C' (if d then [some .dead,some (fA l')] else [some (fA l')]) w'∧aP Tryz.prog C' (if d then [some .dead,some (fA l')] else [some (fA l')]) w'∧Rep C' (if d then [some .dead,some (fA l')] else [some (fA l')]) w' (.own (if d then 1 else 0)) u':=by
 have Ii:∀ (id:Nat) (o:AO),([some (fA l)]:Mem)[id]? = some (some o)→id=0∧o=fA l:=fun id o h=>by
  cases id with
  | zero=>simp at h;exact ⟨rfl,h.symm⟩
  | succ i=>simp at h
 have hblk:∀ b,C.ι 0=some b→u.ownBlock=some b∧∃ cap,u = .slice (some ⟨b,0,none⟩) l.length cap∧cap=C.κ 0:=fun b Rx=>by
  cases h with
  | own _ _ h0 ha hr =>
   rcases hr _ _ _ rfl with ⟨_,hn,_⟩ | ⟨b',rfl,Al⟩
   ·rw [Rx] at hn;cases hn
   ·rw [Rx] at Al;cases Al;exact ⟨rfl,_,rfl,rfl⟩
 have hnb:C.ι 0=none→u = .slice none 0 0:=fun hn=>by
  cases h with
  | own _ _ h0 ha hr =>
   rcases hr _ _ _ rfl with ⟨hu,_,_⟩ | ⟨b',rfl,Al⟩
   ·exact hu
   ·rw [hn] at Al;cases Al
 have hkeep:∀ b,b<w.heap.size→(∀ (id:Nat) (o:AO),([some (fA l)]:Mem)[id]? = some (some o)→o.live=true→C.ι id≠some b)→w'.heap[b]? = w.heap[b]? := fun b Bl hn=>by
  refine hg.block b Bl fun he => ?_
  cases hι:C.ι 0 with
  | none=>rw [hnb hι] at he;cases he
  | some b' =>
   rw [(hblk b' hι).1] at he;cases he
   exact hn 0 _ rfl rfl hι
 have hFz:∀ b,C.F b→w'.heap[b]? = w.heap[b]? := fun b hf=>hkeep b (hM.Fs b hf) fun id o hm hl he=>hM.nF id o b hm hl he hf
 cases d with
 | false =>
  obtain ⟨rfl,hlen⟩:=hd rfl;simp only [Bool.false_eq_true,if_false];have Cy:∀ (id:Nat) (o:AO),([some (fA l')]:Mem)[id]? = some (some o)→id=0∧o=fA l':=fun id o h=>by
   cases id with
   | zero=>simp at h;exact ⟨rfl,h.symm⟩
   | succ i=>simp at h
  have Mz:∀ b,C.ι 0=some b→∃ cur,w'.heap[b]? = some (.cells cur 3 (0,0))∧l'.length≤C.κ 0∧C.κ 0≤maxLen∧cur.size=C.κ 0∧cur.toList.take l'.length=l'.map (Value.int .i64):=fun b hι=>by
   obtain ⟨_,cap,hu,hc⟩:=hblk b hι
   rcases hown.2 with ⟨he,_⟩ | ⟨g,Il,cur,hv,_,hh,r1,r2,r3,r4⟩
   ·rw [hu] at he;cases he
   ·rw [hu] at hv
    obtain ⟨e1,_,e3⟩:=Value.slice.inj hv;cases e1;subst e3;subst hc;exact ⟨cur,hh,r1,r2,by omega,by simpa using r4⟩
  refine ⟨C,⟨hg.os,hg.tape,hg.output,hg.size,hkeep,fun id o hm => ?_,fun id o hm ty n cs hx => ?_,fun id o hm o' hx hl => ?_,fun id o b hm hl hb => ?_,fun _ h=>h,fun _ h => .inl h⟩,
   ⟨fun id ty n cs hm => ?_,fun id ty cs hm => ?_,fun id es cl hm => ?_,fun id E3 o o' b h1 _ h2 _ _ _ => ?_,fun id o b hm hl hb => ?_,fun b hb=>Nat.lt_of_lt_of_le (hM.Fs b hb) hg.size,fun id o b hm hl hb => ?_⟩,?_⟩
  ·obtain ⟨rfl,rfl⟩:=Ii id o hm
   exact ⟨⟨_,rfl⟩,rfl,rfl⟩
  ·obtain ⟨rfl,rfl⟩:=Ii id o hm
   obtain ⟨_,he⟩:=Cy _ _ hx;cases he;exact ⟨l.map aA,by rw [hlen];rfl⟩
  ·obtain ⟨rfl,rfl⟩:=Ii id o hm
   rfl
  ·obtain ⟨rfl,rfl⟩:=Cy id o hm
   exact .inr ⟨0,_,rfl,rfl,hb⟩
  ·obtain ⟨rfl,he⟩:=Cy id _ hm
   cases he;cases hι:C.ι 0 with
   | none =>
    have:=hnb hι
    rcases hown.2 with ⟨_,h0⟩ | ⟨g,Il,cur,hv,_⟩
    ·have:l'=[]:=List.eq_nil_of_length_eq_zero h0
     subst this;exact .inl ⟨rfl,rfl,rfl⟩
    ·rw [this] at hv;cases hv
   | some b =>
    obtain ⟨cur,q1,q2,q3,q4,q5⟩:=Mz b hι;obtain ⟨i,hi,hs⟩:=Gb;obtain ⟨r1,r2⟩:=wJ (w:=w') C.F q5;exact .inr ⟨b,cur,i,rfl,q1,hi,by rw [hs,q4,Nat.mul_one],by simp [hs],q2,q3,r1,r2⟩
  ·obtain ⟨_,he⟩:=Cy id _ hm;cases he
  ·obtain ⟨_,he⟩:=Cy id _ hm;cases he
  ·obtain ⟨rfl,_⟩:=Cy id _ h1
   obtain ⟨rfl,_⟩:=Cy E3 _ h2;rfl
  ·obtain ⟨rfl,_⟩:=Cy id _ hm
   exact hM.nF 0 _ b rfl rfl hb
  ·obtain ⟨rfl,_⟩:=Cy id _ hm
   exact Nat.lt_of_lt_of_le (hM.lt 0 _ b rfl rfl hb) hg.size
  ·cases h with
   | own _ _ h0 ha hr =>
    refine .own 0 _ h0 ⟨_,rfl⟩ fun ty n cs hx => ?_
    obtain ⟨_,he⟩:=Cy 0 _ hx;cases he
    rcases hr _ _ _ rfl with ⟨q1,q2,q3⟩ | ⟨b,q1,q2⟩
    ·exact .inl ⟨q1,q2,by omega⟩
    ·exact .inr ⟨b,by rw [q1,hlen],q2⟩
 | true =>
  simp only [if_true]
  let Il:Nat:=match u' with | .slice _ _ c=>c | _=>0
  have Cy:∀ (id:Nat) (o:AO),([some .dead,some (fA l')]:Mem)[id]? = some (some o)→(id=0∧o = .dead)∨(id=1∧o=fA l'):=fun id o h=>by
   match id,h with
   | 0,h=>simp at h;exact .inl ⟨rfl,h.symm⟩
   | 1,h=>simp at h;exact .inr ⟨rfl,h.symm⟩
   | i+2,h=>simp at h
  refine ⟨{ ι:=fun i=>if i=1 then u'.ownBlock else C.ι i,κ:=fun i=>if i=1 then Il else C.κ i,F:=C.F },⟨hg.os,hg.tape,hg.output,hg.size,hkeep,fun id o hm => ?_,fun id o hm ty n cs hx => ?_,fun id o hm o' hx hl => ?_,fun id o b hm hl hbb => ?_,fun _ h=>h,fun _ h => .inl h⟩,
   ⟨fun id ty n cs hm => ?_,fun id ty cs hm => ?_,fun id es cl hm => ?_,fun id E3 o o' b h1 l1 h2 l2 _ _ => ?_,fun id o b hm hl hbb => ?_,fun b hb=>Nat.lt_of_lt_of_le (hM.Fs b hb) hg.size,fun id o b hm hl hbb => ?_⟩,?_⟩
  ·obtain ⟨rfl,rfl⟩:=Ii id o hm
   exact ⟨⟨_,rfl⟩,rfl,rfl⟩
  ·obtain ⟨rfl,rfl⟩:=Ii id o hm
   rcases Cy _ _ hx with ⟨_,he⟩ | ⟨he,_⟩
   ·cases he
   ·cases he
  ·obtain ⟨rfl,rfl⟩:=Ii id o hm
   rfl
  ·rcases Cy id o hm with ⟨rfl,rfl⟩ | ⟨rfl,rfl⟩
   ·cases hl
   ·simp only [if_true] at hbb
    rw [hb] at hbb
    cases hι:C.ι 0 with
    | none=>rw [hnb hι] at hbb;cases hbb
    | some b' =>
     rw [(hblk b' hι).1] at hbb;cases hbb
     exact .inr ⟨0,_,rfl,rfl,hι⟩
  ·rcases Cy id _ hm with ⟨_,he⟩ | ⟨rfl,he⟩
   ·cases he
   ·cases he
    simp only [if_true]
    rcases hown.2 with ⟨rfl,h0⟩ | ⟨g,cp,cur,rfl,_,hh,r1,r2,r3,r4⟩
    ·have:l'=[]:=List.eq_nil_of_length_eq_zero h0
     subst this;exact .inl ⟨rfl,rfl,rfl⟩
    ·obtain ⟨i,hi,hs⟩:=Gb
     obtain ⟨q1,q2⟩:=wJ (w:=w') C.F (by simpa using r4)
     exact .inr ⟨g,cur,i,rfl,hh,hi,by rw [hs];exact r3,by simp [hs],r1,r2,q1,q2⟩
  ·rcases Cy id _ hm with ⟨_,he⟩ | ⟨_,he⟩ <;> cases he
  ·rcases Cy id _ hm with ⟨_,he⟩ | ⟨_,he⟩ <;> cases he
  ·rcases Cy id _ h1 with ⟨_,rfl⟩ | ⟨rfl,_⟩
   ·cases l1
   ·rcases Cy E3 _ h2 with ⟨_,rfl⟩ | ⟨rfl,_⟩
    ·cases l2
    ·rfl
  ·rcases Cy id _ hm with ⟨_,rfl⟩ | ⟨rfl,_⟩
   ·cases hl
   ·simp only [if_true] at hbb
    rw [hb] at hbb
    cases hι:C.ι 0 with
    | none=>rw [hnb hι] at hbb;cases hbb
    | some b' =>
     rw [(hblk b' hι).1] at hbb;cases hbb
     exact hM.nF 0 _ _ rfl rfl hι
  ·rcases Cy id _ hm with ⟨_,rfl⟩ | ⟨rfl,_⟩
   ·cases hl
   ·simp only [if_true] at hbb
    rw [hb] at hbb
    cases hι:C.ι 0 with
    | none=>rw [hnb hι] at hbb;cases hbb
    | some b' =>
     rw [(hblk b' hι).1] at hbb;cases hbb
     exact Nat.lt_of_lt_of_le (hM.lt 0 _ _ rfl rfl hι) hg.size
  ·have h0:u'.oneCell'=true:=by
    rcases hown.2 with ⟨rfl,_⟩ | ⟨g,cp,cur,rfl,_⟩ <;> rfl
   refine .own 1 _ h0 ⟨_,rfl⟩ fun ty n cs hx => ?_
   rcases Cy _ _ hx with ⟨he,_⟩ | ⟨_,he⟩
   ·cases he
   ·cases he
    simp only [if_true]
    rcases hown.2 with ⟨rfl,h9⟩ | ⟨g,cp,cur,rfl,_⟩
    ·exact .inl ⟨rfl,rfl,h9⟩
    ·exact .inr ⟨g,rfl,rfl⟩

theorem sortI_ok(l:List Int)(hl:l.length≤1000000):FMM Tryz.prog 161 [.own 0] [some (fA l)] (.tup []) [some (fA (l.mergeSort leB))]:=fun C w us hus hM n=>by
 obtain ⟨u,rfl,hu⟩:=qY hus;refine (callsIn_wide.2 (bOi 0 u l w (aWf hM rfl hu) hl)).mono ?_;rintro e w' ⟨rfl,h1,h2⟩;obtain ⟨C',f,m,_⟩:=yL (d:=false) hM hu h1 h2 rfl (fun _=>⟨rfl,List.length_mergeSort l⟩)
 exact ⟨_,rfl,C',f,m,.tup [] #[] rfl (fun i h=>by simp at h)⟩
end KV
end Go.Proofs
end
namespace Go.Proofs
namespace KV
open Tryz
section

end
section

end
section

end
end KV
end Go.Proofs
section
namespace Go.Proofs
open Go.RowKit Go.Lib
namespace KV
open Tryz
end KV
end Go.Proofs
end
namespace Go.Proofs
namespace KV
open Tryz
section
end
section
variable {Ac Az:Int}{a b:List Int}{i Ar base:Nat}

noncomputable abbrev yJ:Code:=sub (cd Tryz.f38) [1,1,0,1,0,0]
def eqi_S0(a b:List Int)(i:Nat):St:=⟨fr 26 [(0,(.p (aC a))),(1,(.p (aC b))),(12,(pI (a.length:Int))),(13,(pI (i:Int)))],[]⟩
theorem eqi_p0(h0:(a.length:Int)≠(b.length:Int)):FV Tp 38 [(.p (aC a)),(.p (aC b))] base (pB false) []:=FV.fi func38 [bT] (gc (gY h0) gn)
theorem eqi_p1(h0:(a.length:Int)=(b.length:Int))(hl1:aE Tp 0 yJ (eqi_S0 a b 0) (.exit 0) (eqi_S0 a b Ar)):FV Tp 38 [(.p (aC a)),(.p (aC b))] base (pB true) []:=FV.fi func38 [bF,hl1.k 4 (gZ da)] (gc hl1.code (gc (cR h0) gn))
theorem eqi_p2(h0:(a.length:Int)=(b.length:Int))(hl1:aE Tp 0 yJ (eqi_S0 a b 0) .ret (bZ (eqi_S0 a b Ar) [(4,(.kb false))])):FV Tp 38 [(.p (aC a)),(.p (aC b))] base (pB false) []:=FV.fi func38 [bF,hl1.k 4 (gZ da)] (gc hl1.code (gc (cR h0) gn))
section
variable(h0:(i:Int)<(a.length:Int))(h1:a[i]? = some Ac)(h2:b[i]? = some Az)
include h0 h1 h2
theorem eqi_L0_p0(h3:Ac≠Az):aB Tp 0 yJ (eqi_S0 a b i) .ret (bZ (eqi_S0 a b i) [(4,(.kb false))]):=aB.fi (gZ co) [bT,.x (aA Ac),.x (aA Az),bT] (gc (gY h3) (gc (atm aA h2) (gc (ixn aA h2) (gc (atm aA h1) (gc (ixn aA h1) (g0 h0))))))
theorem eqi_L0_p1{i':Nat}(h3:Ac=Az)(h4:di i)(Ai:i'=(i+1)):aB Tp 0 yJ (eqi_S0 a b i) .normal (eqi_S0 a b i'):=by
 subst Ai;exact aB.fi (gZ da) [bT,.x (aA Ac),.x (aA Az),bF] (gc h4 (gc (cR h3) (gc (atm aA h2) (gc (ixn aA h2) (gc (atm aA h1) (gc (ixn aA h1) (g0 h0)))))))
end
theorem eqi_L0_p2(h0:(a.length:Int)≤(i:Int)):aB Tp 0 yJ (eqi_S0 a b i) (.exit 0) (eqi_S0 a b i):=aB.fi (gZ da) [bF] (gc (aQ h0) gn)
theorem eqi_ok(a b:List Int)(hl:a.length≤1000){base:Nat}:FV Tp 38 [.p (aC a),.p (aC b)] base (pB (decide (a=b))) []:=by
 by_cases hlen:a.length=b.length
 ·rcases aE.find (P:=Tp) (k:=0) (b:=yJ) (fun i=>eqi_S0 a b i) (fun i _=>bZ (eqi_S0 a b i) [(4,.kb false)]) (eqi_S0 a b a.length) .ret (.exit 0) (by simp) (by simp) (fun j=>decide (a.getD j 0≠b.getD j 0)) (List.range a.length)
   (fun i x hx hp=>by
    have hi:i<a.length:=by have:=aY hx;simpa using this
    have hxi:x=i:=by rw [bMb hi] at hx;exact (Option.some.inj hx).symm
    subst hxi;have h1:a[x]? = some (a.getD x 0):=by rw [Bj,An hi];rfl
    have h2:b[x]? = some (b.getD x 0):=by rw [Bj,An (by omega)];rfl
    have he:=of_decide_eq_false hp;exact eqi_L0_p1 (by omega) h1 h2 (Classical.not_not.1 he) (aM (by omega)) rfl)
   (fun i x hx hp=>by
    have hi:i<a.length:=by have:=aY hx;simpa using this
    have hxi:x=i:=by rw [bMb hi] at hx;exact (Option.some.inj hx).symm
    subst hxi;have h1:a[x]? = some (a.getD x 0):=by rw [Bj,An hi];rfl
    have h2:b[x]? = some (b.getD x 0):=by rw [Bj,An (by omega)];rfl
    exact eqi_L0_p0 (by omega) h1 h2 (of_decide_eq_true hp))
   (by rw [aGa];exact eqi_L0_p2 (by omega)) with ⟨i,x,h1,h2,h3,h4⟩ | ⟨h1,h2,h3⟩
  ·have he:=of_decide_eq_true h3
   rw [decide_eq_false (fun e=>he (by rw [e]))]
   exact eqi_p2 (by omega) h4
  ·have hall:∀ i,i<a.length→a.getD i 0=b.getD i 0:=fun i hi=>by
    have:=List.any_eq_false.1 h2 i (qT.2 hi);simpa using this
   have e:a=b:=by
    apply List.ext_getElem hlen;intro i h1 h2;have:=hall i h1
    rwa [Bj,Bj,An h1,An h2] at this
   rw [decide_eq_true e];exact eqi_p1 (by omega) h3
 ·rw [decide_eq_false (fun e=>hlen (by rw [e]))]
  exact eqi_p0 (by omega)
end
section
theorem ofO(l:List Int):FMM Tp 8 [.p (.sl l.length (l.map cT))] [] (.ptr 0 0) [some (fY l 0 17)]:=cFk
theorem bSh{r:List Int}{F6 Aj:Int}(n:Int)(l:List Int)(nx st:Int)(h:0≤nx∧nx≤1000000)(hn:0≤n∧n≤1000)(e:qW n l nx st=(r,F6,Aj)):FMM Tp 37 [.ptr 0 0,.p (aA n)] [some (fY l nx st)] (.own 1) [some (fY l F6 Aj),some (.row 3 r.length (r.map aA))]:=by
 have:=bSr n l nx st h hn;rw [e] at this
 exact this
def bYv(ns nd:Int)(l:List Int)(nx st:Int)(r:Lqq × Lqq × Int × Int):Prop :=
 fQ 30 r.1 r.2.1∧(r.1.length:Int)≤ns∧(r.2.1.length:Int)≤nd∧(0≤r.2.2.1∧r.2.2.1≤4000)∧(r.1.Pairwise fun a b=>a.getD 0 0<b.getD 0 0)∧(r.2.1.Pairwise fun a b=>a.getD 0 0<b.getD 0 0)∧(∀ x∈r.2.1,x.getD 0 0≤80)∧(∀ x∈r.1,x.getD 0 0≤88∧x.getD 1 0≤16000) ∧
  FMM Tp 7 [.ptr 0 0,.p (aA ns),.p (aA nd)] [some (fY l nx st)] (.p (.agg (qZ 30 r.1 r.2.1))) [some (fY l r.2.2.1 r.2.2.2)]
open Classical in
noncomputable def bMk(ns nd:Int)(l:List Int)(nx st:Int):Lqq × Lqq × Int × Int:=if h:∃ r,bYv ns nd l nx st r then Classical.choose h else ([],[],0,0)
theorem aOy{ns nd:Int}{l:List Int}{nx st:Int}(hns:1≤ns∧ns≤30)(hnd:0≤nd∧nd≤40)(hnx:0≤nx∧nx≤900):bYv ns nd l nx st (bMk ns nd l nx st):=by
 obtain ⟨sk,dc,mx,tt,h⟩:=bYz (ns:=ns) (nd:=nd) (l:=l) (nx:=nx) (st:=st) hns hnd hnx;have hex:∃ r,bYv ns nd l nx st r:=⟨(sk,dc,mx,tt),h⟩;unfold bMk;rw [dif_pos hex];exact Classical.choose_spec hex
theorem bYw{sk dc:Lqq}{F6 Aj:Int}(ns nd:Int)(l:List Int)(nx st:Int)(h:0≤nx∧nx≤900)(hs:1≤ns∧ns≤30)(hd:0≤nd∧nd≤40)(e:bMk ns nd l nx st=(sk,dc,F6,Aj)):FMM Tp 7 [.ptr 0 0,.p (aA ns),.p (aA nd)] [some (fY l nx st)] (.p (.agg (qZ 30 sk dc))) [some (fY l F6 Aj)]:=by
 have:=(aOy (l:=l) (st:=st) hs hd h).2.2.2.2.2.2.2.2;rw [e] at this
 exact this
end
section
abbrev sB(s:List Int):Int:=s.getD 0 0
abbrev sT(s:List Int):Int:=s.getD 1 0
def eN(dl:Int)(oc:List Int)(dc sk:Lqq):Lqq:=(sk.filter fun s => !(dO dl oc dc (sB s) (sT s)).2).map fun s=>[sB s,0,(dO dl oc dc (sB s) (sT s)).1]
def eU(dl:Int)(oc:List Int)(dc sk:Lqq):Lqq:=(sk.filter fun s=>(dO dl oc dc (sB s) (sT s)).2).map fun s=>[sB s,-1,0]
def plN(A:Lqq)(t:Int):Int:=match A.getLast? with
 | some y=>if y.getD 2 0=t then y.getD 1 0 else (A.length:Int)+1
 | none=>(A.length:Int)+1
def plS(A:Lqq)(x:List Int):Lqq:=A++[[x.getD 0 0,plN A (x.getD 2 0),x.getD 2 0]]
def iO(l:Lqq):Lqq:=l.foldl plS []
def fN(dl:Int)(oc:List Int)(dc sk:Lqq):Lqq:=iO (isort (ltK 2) (eN dl oc dc sk))++eU dl oc dc sk

theorem bVj(A D:List PV)(a b c v:PV):(A++[a,b,c]++D).set (A.length+1) v=A++[a,v,c]++D:=by
 induction A with
 | nil=>rfl
 | cons x A ih=>simp
theorem fl_setf{L:Lqq}{j:Nat}{a b c:Int}(hu:uni 3 L)(hj:L[j]? = some [a,b,c])(v:Int):(L.flatten.map aA).set (j*3+1) (aA v)=((L.set j [a,v,c]).flatten.map aA):=by
 obtain ⟨hlt,he⟩:=Bg.1 hj;have h0:=gX (k:=3) (i:=j) (x:=[a,b,c]) hu hlt rfl;have h1:=gX (k:=3) (i:=j) (x:=[a,v,c]) hu hlt rfl;have hs:L.set j [a,b,c]=L:=by rw [← he];exact List.set_getElem_self hlt
 rw [hs] at h0
 rw [← h1];have hl:((L.flatten.map aA).take (j*3)).length=j*3:=by
  have:=cW hu hj;rw [kV];omega
 have:=bVj ((L.flatten.map aA).take (j*3)) ((L.flatten.map aA).drop (j*3+3)) (aA a) (aA b) (aA c) (aA v);rw [hl] at this
 conv=>lhs;rw [← h0]
 exact this
theorem bVk(A:Lqq)(x:List Int):(plS A x).length=A.length+1:=by simp [plS]
theorem bAz(l:Lqq):∀ A:Lqq,(l.foldl plS A).length=A.length+l.length:=by
 induction l with
 | nil=>intro A;simp
 | cons x l ih=>intro A;rw [qR,ih,bVk];simp;omega
theorem aLn(l:Lqq):∀ A:Lqq,uni 3 A→uni 3 (l.foldl plS A):=by
 induction l with
 | nil=>intro A h;exact h
 | cons x l ih =>
  intro A h;rw [qR];refine ih _ fun y hy => ?_
  unfold plS at hy
  rcases dY.1 hy with hy | hy
  ·exact h y hy
  ·rw [List.mem_singleton.1 hy];rfl
section
variable {dl:Int} {sk dc:Lqq} {oc:List Int} {ov:PV}
theorem aWg(l:Lqq)(hu:uni 3 l)(hl:l.length<1000)(p q:Lqq)(hp:(isort (ltK 2) p).length=l.length)(t:Lqb) :
  aE Tp 7 (sub (cd Tryz.f53) cb) (jQ dl sk dc ov p q t l.length (l.flatten.map aA) 0) (.exit 2) (jQ dl sk dc ov p q t (iO l).length ((iO l).flatten.map aA) l.length):=by
 let St (j:Nat):Lqq:=(l.take j).foldl plS []++l.drop j
 have hlen:∀ j,j≤l.length→((l.take j).foldl plS []).length=j:=fun j hj=>by rw [bAz];simp;omega
 have hlS:∀ j,j≤l.length→(St j).length=l.length:=fun j hj=>by
  show (_++_:Lqq).length=_;rw [kU,hlen j hj,bMc];omega
 have huS:∀ j,uni 3 (St j):=fun j y hy=>by
  rcases dY.1 hy with hy | hy
  ·exact aLn _ [] (fun z hz=>by cases hz) y hy
  ·exact hu y (List.mem_of_mem_drop hy)
 have:=aE.count (P:=Tp) (k:=7) (b:=sub (cd Tryz.f53) cb) (e := .exit 2) (R:=jQ dl sk dc ov p q t (iO l).length ((iO l).flatten.map aA) l.length) l.length
  (fun j=>jQ dl sk dc ov p q t (St j).length ((St j).flatten.map aA) j)
  (fun j hj=>by
   have hx:=hu _ (eE hj);obtain ⟨a,b,c,hx⟩:=Gp hx;have hA:=hlen j (by omega)
   have e1:(l.take (j+1)).foldl plS []=plS ((l.take j).foldl plS []) [a,b,c]:=by
    rw [List.take_add_one,An hj,hx];rw [vX];rfl
   have hdr:l.drop j=[a,b,c]::l.drop (j+1):=by rw [aFy hj,hx]
   have g1:(St j)[j]? = some [a,b,c]:=by
    show ((l.take j).foldl plS []++l.drop j)[j]? = _;rw [aKl (by omega),hA,Nat.sub_self,hdr];rfl
   have hset:∀ v,(St j).set j [a,v,c]=(l.take j).foldl plS []++[a,v,c]::l.drop (j+1):=fun v=>by
    show ((l.take j).foldl plS []++l.drop j).set j [a,v,c]=_;rw [List.set_append_right _ _ (by omega),hA,Nat.sub_self,hdr];rfl
   have hnext:St (j+1)=(St j).set j [a,plN ((l.take j).foldl plS []) c,c]:=by
    rw [hset];show (l.take (j+1)).foldl plS []++l.drop (j+1)=_;rw [e1];unfold plS;rw [List.append_assoc];rfl
   have hle:=cW (huS j) g1;have hpl:(j:Int)<((isort (ltK 2) p).length:Int):=by rw [hp];omega
   rw [hnext]
   rcases Nat.eq_zero_or_pos j with h0 | hpos
   ·have hn:plN ((l.take j).foldl plS []) c=(j:Int)+1:=by
     subst h0;rfl
    rw [hn];exact bGr (L:=St j) (L':=(St j).set j [a,((j+1:Nat):Int),c]) (by exact_mod_cast hpl) (aM (by omega)) g1 (by omega) (by omega) (by simp) (fl_setf (huS j) g1 _).symm rfl
   ·have g2:∃ y0 y1 y2,((l.take j).foldl plS []).getLast? = some [y0,y1,y2]∧(St j)[((j:Int)-1).toNat]? = some [y0,y1,y2]:=by
     have hlt:j-1<((l.take j).foldl plS []).length:=by omega
     have h3:=aLn (l.take j) [] (fun z hz=>by cases hz) _ (eE hlt)
     obtain ⟨y0,y1,y2,hy⟩:=Gp h3;refine ⟨y0,y1,y2,?_,?_⟩
     ·rw [List.getLast?_eq_getElem?,hA,An hlt,hy]
     ·show ((l.take j).foldl plS []++l.drop j)[((j:Int)-1).toNat]? = _
      rw [show ((j:Int)-1).toNat=j-1 by omega,aFx hlt,An hlt,hy]
    obtain ⟨y0,y1,y2,g3,g4⟩:=g2
    by_cases hc:c=y2
    ·have hn:plN ((l.take j).foldl plS []) c=y1:=by
      unfold plN;rw [g3];show (if y2=c then y1 else _)=y1
      rw [if_pos hc.symm]
     rw [hn];have Us:uni 3 ((St j).set j [a,((j+1:Nat):Int),c]):=vY (huS j) rfl;have g5:((St j).set j [a,((j+1:Nat):Int),c])[j]? = some [a,((j+1:Nat):Int),c]:=by
      rw [List.getElem?_set_self (by rw [hlS j (by omega)];omega)]
     refine bGp (L:=St j) (L':=(St j).set j [a,y1,c]) (by exact_mod_cast hpl) (aM (by omega)) g1 (by omega) (by omega) (huS j) (by show _∧_;omega) g4 (by omega) hc (by rw [lP];omega) (by simp) ?_ rfl
     rw [fl_setf (huS j) g1,fl_setf Us g5,List.set_set]
    ·have hn:plN ((l.take j).foldl plS []) c=(j:Int)+1:=by
      unfold plN;rw [g3];show (if y2=c then y1 else _)=_
      rw [if_neg (fun h=>hc h.symm),hA]
     rw [hn];exact bGq (L:=St j) (L':=(St j).set j [a,((j+1:Nat):Int),c]) (by exact_mod_cast hpl) (aM (by omega)) g1 (by omega) (by omega) (huS j) (by show _∧_;omega) g4 (by omega) hc (by simp) (fl_setf (huS j) g1 _).symm rfl)
  (by
   have e:St l.length=iO l:=by
    show (l.take l.length).foldl plS []++l.drop l.length=_;rw [List.take_length,List.drop_length,List.append_nil];rfl
   rw [e];exact bGs (by rw [hp];omega)) (by simp)
 exact this
theorem aIl:(eN dl oc dc sk).length≤sk.length:=by
 unfold eN;rw [Bt];exact aTv _ _
theorem aEc:(eU dl oc dc sk).length≤sk.length:=by
 unfold eU;rw [Bt];exact aTv _ _
theorem aIm:uni 3 (eN dl oc dc sk):=fun y hy=>by
 obtain ⟨s,_,rfl⟩:=Bi.1 hy;rfl
theorem aEd:uni 3 (eU dl oc dc sk):=fun y hy=>by
 obtain ⟨s,_,rfl⟩:=Bi.1 hy;rfl
theorem uK(f:Nat)(l:Lqq):(isort (ltK f) l).length=l.length:=isort_length _ _
theorem bGt{k f:Nat}{l:Lqq}(h:uni k l):uni k (isort (ltK f) l):=fun y hy=>h y ((isort_mem _ _ y).1 hy)
theorem aEe(l:Lqq):(iO l).length=l.length:=by unfold iO;rw [bAz];simp
theorem aWh(l:Lqq):uni 3 (iO l):=aLn l [] fun z hz=>by cases hz
theorem aPu:uni 3 (fN dl oc dc sk):=fun y hy=>by
 rcases dY.1 hy with hy | hy
 ·exact aWh _ y hy
 ·exact aEd y hy
theorem aPv{α:Type}(p:α→Bool):∀ l:List α,(l.filter fun x => !p x).length+(l.filter p).length=l.length
 | []=>rfl
 | x::l=>by
  have:=aPv p l;cases h:p x <;> simp [h] <;> omega
theorem bOj:(fN dl oc dc sk).length=sk.length:=by
 unfold fN eN eU;rw [kU,aEe,uK,Bt,Bt];exact aPv _ sk
theorem cGl(hd:dA dc)(hov:∀ n,aAn ov n (oc.contains n))(hs:uni 2 sk)(hb:∀ x∈sk,skB x=true)(hl:sk.length<20){T:Lqb}(hT:cK dl oc dc T):∃ T',cK dl oc dc T'∧cFw dl sk dc ov (fN dl oc dc sk) T T':=by
 obtain ⟨acc,⟨h1,h2,h3⟩,h4⟩:=aE.ex (P:=Tp) (k:=7) (b:=sub (cd Tryz.f53) cy) (e := .exit 0) (fun i (a:(Lqq × Lqq) × Lqb)=>nL dl sk dc ov a.1.1.length (a.1.1.flatten.map aA) a.1.2.length (a.1.2.flatten.map aA) i (aK a.2) a.2.length)
  (fun a=>nL dl sk dc ov a.1.1.length (a.1.1.flatten.map aA) a.1.2.length (a.1.2.flatten.map aA) sk.length (aK a.2) a.2.length)
  (fun i a=>cK dl oc dc a.2∧a.1.1=eN dl oc dc (sk.take i)∧a.1.2=eU dl oc dc (sk.take i)) (by simp) sk.length
  (fun i acc hi hI=>by
   obtain ⟨⟨p,q⟩,T1⟩:=acc;obtain ⟨h1,h2,h3⟩:=hI;dsimp only at h1 h2 h3
   have hm:=eE hi;obtain ⟨a,b,hy⟩:=len2 (hs _ hm);have hx:sk[i]? = some [a,b]:=by rw [An hi,hy]
   rw [hy] at hm
   have hr : -1≤b∧b≤360000:=by
    have:=hb _ hm;rw [cAr,Bw] at this
    exact within_iff.1 this.2
   obtain ⟨T2,q1,q2⟩:=cGh (sk:=sk) hd hov a b hr h1;have hp:p.length≤20:=by rw [h2];have:=aIl (dl:=dl) (oc:=oc) (dc:=dc) (sk:=sk.take i);rw [kV] at this;omega
   have hq:q.length≤20:=by rw [h3];have:=aEc (dl:=dl) (oc:=oc) (dc:=dc) (sk:=sk.take i);rw [kV] at this;omega
   have et:sk.take (i+1)=sk.take i++[[a,b]]:=by rw [List.take_add_one,hx];rfl
   rw [et];have e1:eN dl oc dc (sk.take i++[[a,b]])=p++if (dO dl oc dc a b).2 then [] else [[a,0,(dO dl oc dc a b).1]]:=by
    rw [h2];unfold eN;rw [aFz,jJ]
    congr 1
    show (List.filter _ [[a,b]]).map _=_;cases hq:(dO dl oc dc a b).2 <;> simp [hq]
   have e2:eU dl oc dc (sk.take i++[[a,b]])=q++if (dO dl oc dc a b).2 then [[a,-1,0]] else []:=by
    rw [h3];unfold eU;rw [aFz,jJ]
    congr 1
    show (List.filter _ [[a,b]]).map _=_;cases hq:(dO dl oc dc a b).2 <;> simp [hq]
   rw [e1,e2];cases hc:(dO dl oc dc a b).2 with
   | true =>
    rw [hc] at q2
    exact ⟨((p,q++[[a,-1,0]]),T2),⟨q1,by simp,by simp⟩,bGm (q:=q) (q':=q++[[a,-1,0]]) (by omega) hx hs q2 rfl ⟨rfl,by omega⟩ (aM (by omega)) (by simp) (by simp) rfl rfl rfl⟩
   | false =>
    rw [hc] at q2
    exact ⟨((p++[[a,0,(dO dl oc dc a b).1]],q),T2),⟨q1,by simp,by simp⟩,bGn (p:=p) (p':=p++[[a,0,(dO dl oc dc a b).1]]) (by omega) hx hs q2 rfl ⟨rfl,by omega⟩ (aM (by omega)) (by simp) (by simp) rfl rfl rfl⟩)
  (fun acc hI=>bGo (by omega)) (acc:=(([],[]),T)) ⟨hT,by simp [eN],by simp [eU]⟩
 obtain ⟨⟨p,q⟩,T1⟩:=acc;dsimp only at h1 h2 h3 h4
 rw [List.take_length] at h2 h3
 subst h2 h3;have hp:=aIl (dl:=dl) (oc:=oc) (dc:=dc) (sk:=sk);have hq:=aEc (dl:=dl) (oc:=oc) (dc:=dc) (sk:=sk);have hP:=aWg (dl:=dl) (sk:=sk) (dc:=dc) (ov:=ov) (isort (ltK 2) (eN dl oc dc sk)) (bGt aIm) (by rw [uK];omega) (eN dl oc dc sk) (eU dl oc dc sk) rfl T1
 refine ⟨T1,h1,cCk (Hj:=(fN dl oc dc sk).length) (Hk:=(fN dl oc dc sk).flatten.map aA) h4 aIm (by omega) hP ⟨qX aEd,by rw [aEe,uK];omega⟩ ?_ ?_⟩
 ·unfold fN;rw [kU]
 ·unfold fN;rw [bDm,jJ]
end
theorem bVl{dl:Int}{sk dc:Lqq}(h:fQ dl sk dc):∀ x∈aW sk,skB x=true:=fun x hx=>h.hsk x ((cB sk).mem_iff.1 hx)
theorem cCo{dl:Int}{sk dc:Lqq}(h:fQ dl sk dc)(hl:sk.length<20){base:Nat}:FV Tp 25 [.p (.agg (qZ dl sk dc))] base (.tup [.own base,.p (aA 0)]) [(base,.row 63 (fN dl [] (aW dc) (aW sk)).length ((fN dl [] (aW dc) (aW sk)).flatten.map aA))]:=by
 obtain ⟨T',h1,h2⟩:=cGl (dl:=dl) (sk:=aW sk) (aDs h) bUd (yA h.us) (bVl h) (by rw [oI];exact hl) cK.nil
 exact cCl h h2
end
section
variable {b t Aa Ab Ad:Int}{R:Lqq}{o:List Int}{i i' Ar base:Nat}
variable {dl:Int}{sk dc:Lqq}

noncomputable abbrev aDd:Code:=sub (cd Tryz.f34) [1,0,1,0,0]
noncomputable abbrev aUc:Code:=sub (cd Tryz.f33) [1,1,1,0,1,0,0]
theorem bYr:((0:Int) != 0)=false:=by first | decide | simp
theorem bMj{y0 y1 y2:Int}{r0:Bool}(Ak:r0=(y0 == b)):FV Tp 35 [(.p (.agg [(aA y0),(aA y1),(aA y2)])),(.rp [(aA b),(aA t)] 0)] base (pB r0) []:=by
 subst Ak;exact FV.fi func35 [.x (aA b)] (gr (aA b) gn)
def mC(R:Lqq)(b t:Int)(i:Nat):St:=⟨fr 19 [(0,(.p (fS R))),(1,(.fn 35 [] [(.rp [(aA b),(aA t)] 0)])),(7,(pI (R.length:Int))),(8,(pI (i:Int)))],[]⟩
theorem bYs(hl0:aE Tp 0 aDd (mC R b t 0) .ret (bZ (mC R b t Ar) [(4,(pI (Ar:Int)))])):FV Tp 34 [(.p (fS R)),(.fn 35 [] [(.rp [(aA b),(aA t)] 0)])] base (pI (Ar:Int)) []:=FV.fi func34 [hl0.k 6 (gZ dg)] (gc hl0.code gn)
section
variable(h0:(i:Int)<(R.length:Int))(h1:R[i]? = some [Aa,Ab,Ad])(h2:uni 3 R)
include h0 h1 h2
theorem bDy(h3:(Aa == b)=true):aB Tp 0 aDd (mC R b t i) .ret (bZ (mC R b t i) [(4,(pI (i:Int)))]):=aB.fi (gZ cx) [bT,.x (.agg [(aA Aa),(aA Ab),(aA Ad)]),.c (pB (Aa == b)) [],bT] (gc h3 (gt (FC Tp 35 [(.p (.agg [(aA Aa),(aA Ab),(aA Ad)])),(.rp [(aA b),(aA t)] 0)] [] 0 (pB (Aa == b)) []) (FV.fc (bMj (y0:=Aa) (y1:=Ab) (y2:=Ad) (b:=b) (t:=t) rfl) rfl) (gfl h2 h1 (g0 h0))))
theorem bDz(h3:(Aa == b)=false)(h4:di i)(Ai:i'=(i+1)):aB Tp 0 aDd (mC R b t i) .normal (mC R b t i'):=by
 subst Ai;exact aB.fi (gZ dg) [bT,.x (.agg [(aA Aa),(aA Ab),(aA Ad)]),.c (pB (Aa == b)) [],bF] (gc h4 (gc h3 (gt (FC Tp 35 [(.p (.agg [(aA Aa),(aA Ab),(aA Ad)])),(.rp [(aA b),(aA t)] 0)] [] 0 (pB (Aa == b)) []) (FV.fc (bMj (y0:=Aa) (y1:=Ab) (y2:=Ad) (b:=b) (t:=t) rfl) rfl) (gfl h2 h1 (g0 h0)))))
end
theorem bEa(h0:(R.length:Int)≤(i:Int)):aB Tp 0 aDd (mC R b t i) (.exit 0) (mC R b t i):=aB.fi (gZ dg) [bF] (gc (aQ h0) gn)
def lnI(R:Lqq)(b:Int):Int:=fC (fun y=>y.getD 0 0 == b) R
theorem bYt{R:Lqq}{b:Int}(t:Int){j:Nat}(hu:uni 3 R)(hl:R.length≤1000)(e:lnI R b=(j:Int)){base:Nat}:FV Tp 34 [.p (fS R),.fn 35 [] [.rp [aA b,aA t] 0]] base (pI (j:Int)) []:=by
 rcases aE.find (P:=Tp) (k:=0) (b:=aDd) (fun i=>mC R b t i) (fun i _=>bZ (mC R b t i) [(4,.p (aA (i:Int)))]) (mC R b t R.length) .ret (.exit 0) (by simp) (by simp) (fun y=>y.getD 0 0 == b) R
  (fun i x hx hp=>by
   obtain ⟨y0,y1,y2,rfl⟩:=Gp (hu x (Br hx));exact bDz (by have:=aY hx;omega) hx hu hp (aM (by have:=aY hx;omega)) rfl)
  (fun i x hx hp=>by
   obtain ⟨y0,y1,y2,rfl⟩:=Gp (hu x (Br hx));exact bDy (by have:=aY hx;omega) hx hu hp)
  (bEa (by omega)) with ⟨i,x,h1,h2,h3,h4⟩ | ⟨h1,h2,h3⟩
 ·unfold lnI at e
  rw [dR h2] at e
  have:i=j:=by omega
  subst this;exact bYs h4
 ·unfold lnI at e
  rw [dV h1] at e
  omega
def qV(dl:Int)(sk dc:Lqq)(i on:Nat)(oc:List PV):St:=⟨fr 48 [(4,(.own 0)),(5,(pI 0)),(6,(.own 1)),(16,(.p (fS sk))),(17,(pI (sk.length:Int))),(18,(pI (i:Int)))],[some (.row 63 ((fN dl [] (aW dc) (aW sk)).length) ((fN dl [] (aW dc) (aW sk)).flatten.map aA)),some (.row 3 on oc)]⟩
theorem bYu{A3:List Int}(h0:fQ dl sk dc)(h1:sk.length<20)(Bo:aE Tp 0 aUc (qV dl sk dc 0 0 []) (.exit 0) (qV dl sk dc Ar A3.length (A3.map aA))):FV Tp 33 [(.p (.agg [(aA dl),(fS sk),(fS dc)]))] base (.tup [(.p (aC A3)),(pB true)]) []:=have k1:=fk 1 (cCo h0 h1) rfl;FV.frz (FMM.fi 0 ⟨[],[],[1],[]⟩ func33 [k1.o,Bo.k 6 (gN [0,4,7,9,19,28] [1,2] [(6,3)])] (gc Bo.code (gc k1 gn))) (by kernel_rfl)
theorem bEb{E6:Nat}{Af Ae Ag:Int}{o':List Int}(h0:(i:Int)<(sk.length:Int))(h1:sk[i]? = some [Aa,Ab])(h2:uni 2 sk)(h3:uni 3 (fN dl [] (aW dc) (aW sk)))(h4:(fN dl [] (aW dc) (aW sk)).length≤1000)(h5:lnI (fN dl [] (aW dc) (aW sk)) Aa=(E6:Int))(h6:(0:Int)≤(E6:Int))(h7:(E6:Int)<((fN dl [] (aW dc) (aW sk)).length:Int))(h8:(fN dl [] (aW dc) (aW sk))[E6]? = some [Af,Ae,Ag])(h9:[(aA (if Ae > 0 then Ae else 0))].length=1*1∧o.length+1≤1000000)(A5:di i)(Ai:i'=(i+1))(B0:o'.length=(o.length+1))(B1:o'.map aA=((o.map aA)++[(aA (if Ae > 0 then Ae else 0))])):aB Tp 0 aUc (qV dl sk dc i o.length (o.map aA)) .normal (qV dl sk dc i' o'.length (o'.map aA)):=by
 subst Ai;rw [B0,B1];exact aB.fi (gI [0,4,7,9,19,28] [0,4]) ([bT,.x (.agg [(aA Aa),(aA Ab)]),.c (pI (E6:Int)) []]++rF 9++[.x (aA Ae)]) (gc A5 (gc h9 (gt (((fN dl [] (aW dc) (aW sk)).flatten.map aA)[((E6*3)+1)]? = some (aA Ae)) (dL (i:=E6) (f:=1) h3 h8 rfl) (gc (aZ (i:=(E6:Int)) (jA _) h8) (gc (jZ h7) (B7 (aQ h6) (Aq bYr (gt (FC Tp 34 [(.own 0),(.fn 35 [] [(.ptr 2 0)])] [(0,(.row 63 ((fN dl [] (aW dc) (aW sk)).length) ((fN dl [] (aW dc) (aW sk)).flatten.map aA))),(2,(.box 80 [(pI Aa),(pI Ab)]))] 3 (pI (E6:Int)) []) (fv (bYt Ab h3 h4 h5)) (gfl h2 h1 (g0 h0))))))))))
theorem bEc(h0:(sk.length:Int)≤(i:Int)):aB Tp 0 aUc (qV dl sk dc i o.length (o.map aA)) (.exit 0) (qV dl sk dc i o.length (o.map aA)):=aB.fi (gI [0,4,7,9,19,28] [0,1]) [bF] (gc (aQ h0) gn)
end
section

theorem aWi(n:Int)(l:List Int)(nx st:Int):(qW n l nx st).1.Perm (upL n.toNat)∧nx≤(qW n l nx st).2.1∧(qW n l nx st).2.1≤nx+(n.toNat:Int):=by
 have h:=aDi l (n.toNat-1) (upL n.toNat) nx st (by unfold upL;rw [Bt,aGa];omega)
 refine ⟨h.1,h.2.1,?_⟩;have:=h.2.2;unfold qW;omega
def aWj(sk:Lqq)(o:List Int):Lqq:=o.map fun x=>sk.getD x.toNat []
theorem bGu{sk:Lqq}{o:List Int}(h:o.Perm (upL sk.length)):(aWj sk o).Perm sk:=by
 have h1:aWj sk (upL sk.length)=sk:=by
  unfold aWj upL;rw [sQ];apply List.ext_getElem
  ·simp
  ·intro i h1 h2
   rw [lE,List.getElem_range];show sk.getD ((i:Int)).toNat []=_;rw [aTw,Bj,An h2];rfl
 have:=h.map fun x:Int=>sk.getD x.toNat []
 unfold aWj at h1 ⊢
 rw [h1] at this
 exact this
theorem bVm{o:List Int}{n i:Nat}{x:Int}(h:o.Perm (upL n))(hx:o[i]? = some x):0≤x∧x.toNat<n:=by
 have:=h.mem_iff.1 (Br hx);unfold upL at this
 obtain ⟨a,ha,rfl⟩:=Bi.1 this;have:=qT.1 ha;omega
theorem bVn(n:Nat):(upL n).length=n:=by unfold upL;simp
theorem fQ.sub{dl:Int}{sk dc Hh C8 r:Lqq}(h:fQ dl sk dc)(hs:Hh.Perm sk)(hd:(C8++r).Perm dc):fQ dl Hh C8:=by
 have hm:∀ x∈C8,x∈dc:=fun x hx=>hd.mem_iff.1 (dY.2 (.inl hx))
 have hl:=hd.length_eq;rw [kU] at hl
 have hc:∀ n,(bC Hh 0).contains n=(bC sk 0).contains n:=fun n=>by
  rw [Bool.eq_iff_iff,List.contains_iff_mem,List.contains_iff_mem];exact (hs.map fun x=>x.getD 0 0).mem_iff
 have hnd:(bC C8 0).Nodup:=by
  have h1:=(hd.map fun x:List Int=>x.getD 0 0).nodup_iff.2 h.nd
  rw [jJ] at h1
  exact (List.nodup_append.1 h1).1
 have Bo:=h.len2;exact ⟨fun x hx=>h.us x (hs.mem_iff.1 hx),fun x hx=>h.ud x (hm x hx),by rw [hs.length_eq];exact h.len,by omega,h.hdl,fun x hx=>h.hsk x (hs.mem_iff.1 hx),fun x hx=>h.hdc x (hm x hx),
  (hs.map fun x:List Int=>x.getD 0 0).nodup_iff.2 h.ns,hnd,fun x hx=>by
   have:=h.inb x (hm x hx);unfold inB at this ⊢
   rw [hc];exact this,fun x hx=>h.ord x (hm x hx)⟩
theorem aGf{l l':Lqq}(hn:(bC l 0).Nodup)(hp:l'.Perm l):aW l'=aW l:=uF hn ((cB l').trans hp) (jL l')

theorem bOk{α:Type}{Q:List α→Prop}(h0:Q [])(hs:∀ l x,Q l→Q (l++[x]))(l:List α):Q l:=by
 have key:∀ r:List α,Q r.reverse:=fun r=>by
  induction r with
  | nil=>exact h0
  | cons a r ih=>rw [List.reverse_cons];exact hs _ _ ih
 have:=key l.reverse
 rwa [List.reverse_reverse] at this
def lH(L:Lqq)(t:Int):Nat:=(L.filter fun x=>decide (x.getD 2 0<t)).length
theorem aIn(L:Lqq)(x:List Int)(t:Int):lH (L++[x]) t=lH L t+if x.getD 2 0<t then 1 else 0:=by
 unfold lH;rw [aFz,kU]
 congr 1
 by_cases h:x.getD 2 0<t
 ·rw [if_pos h,List.filter_cons,if_pos (decide_eq_true h)];rfl
 ·rw [if_neg h,List.filter_cons,if_neg (by rw [decide_eq_false h];simp)];rfl
theorem aEf(L:Lqq):L.Pairwise (fun a b=>a.getD 2 0≤b.getD 2 0)→iO L=L.map fun x=>[x.getD 0 0,(lH L (x.getD 2 0):Int)+1,x.getD 2 0]:=by
 refine bOk (Q:=fun L=>L.Pairwise (fun a b=>a.getD 2 0≤b.getD 2 0)→iO L=L.map fun x=>[x.getD 0 0,(lH L (x.getD 2 0):Int)+1,x.getD 2 0]) (fun _=>rfl) (fun l x ih hp => ?_) L
 obtain ⟨h1,_,h3⟩:=List.pairwise_append.1 hp;have h4:∀ a∈l,a.getD 2 0≤x.getD 2 0:=fun a ha=>h3 a ha x (by simp)
 have e:iO (l++[x])=iO l++[[x.getD 0 0,plN (iO l) (x.getD 2 0),x.getD 2 0]]:=by
  unfold iO;rw [vX];rfl
 rw [e,ih h1,jJ]
 congr 1
 ·refine xX fun y hy => ?_
  rw [aIn,if_neg (by have:=h4 y hy;omega)];rfl
 ·have hx:lH (l++[x]) (x.getD 2 0)=lH l (x.getD 2 0):=by rw [aIn,if_neg (by omega)];rfl
  show [[x.getD 0 0,plN _ (x.getD 2 0),x.getD 2 0]]=[[x.getD 0 0,(lH (l++[x]) (x.getD 2 0):Int)+1,x.getD 2 0]];rw [hx]
  congr 3
  rcases List.eq_nil_or_concat l with rfl | ⟨m,y,rfl⟩
  ·rfl
  ·rw [List.concat_eq_append] at *
   unfold plN;rw [jJ,iK,List.map_nil,List.getLast?_concat];show (if y.getD 2 0=x.getD 2 0 then (lH (m++[y]) (y.getD 2 0):Int)+1 else _)=_
   by_cases hc:y.getD 2 0=x.getD 2 0
   ·rw [if_pos hc,hc]
   ·rw [if_neg hc]
    have h5:=h4 y (by simp)
    have h6:lH (m++[y]) (x.getD 2 0)=(m++[y]).length:=by
     unfold lH;rw [List.filter_eq_self.2];intro a ha;refine decide_eq_true ?_
     rcases dY.1 ha with ha | ha
     ·have:=(List.pairwise_append.1 h1).2.2 a ha y (by simp)
      omega
     ·obtain rfl:a=y:=by simpa using ha
      omega
    rw [h6];simp
section
variable {dl:Int} {oc:List Int} {sk dc:Lqq}
def cFx(a b:List Int):Prop:=(b.getD 1 0 = -1→a.getD 1 0 = -1→a.getD 0 0<b.getD 0 0)∧(b.getD 1 0 ≠ -1→a.getD 1 0 ≠ -1∧a.getD 2 0≤b.getD 2 0∧(a.getD 2 0=b.getD 2 0→a.getD 0 0<b.getD 0 0))
def inL(t:Int)(y:List Int):Bool:=decide (y.getD 1 0 ≠ -1∧y.getD 2 0<t)
theorem bOl(hs:sk.Pairwise fun a b=>a.getD 0 0<b.getD 0 0) :
  (fN dl oc dc sk).Pairwise cFx ∧
  (∀ y∈fN dl oc dc sk,y.getD 1 0 ≠ -1→y.getD 1 0=1+(((fN dl oc dc sk).filter (inL (y.getD 2 0))).length:Int)) ∧
  (∀ y∈fN dl oc dc sk,∃ s∈sk,s.getD 0 0=y.getD 0 0∧dO dl oc dc (sB s) (sT s)=(y.getD 2 0,decide (y.getD 1 0 = -1))):=by
 have Ut:(eN dl oc dc sk).Pairwise fun a b=>a.getD 0 0<b.getD 0 0:=by
  unfold eN;rw [List.pairwise_map];exact (hs.sublist List.filter_sublist)
 have hO:(eU dl oc dc sk).Pairwise fun a b=>a.getD 0 0<b.getD 0 0:=by
  unfold eU;rw [List.pairwise_map];exact (hs.sublist List.filter_sublist)
 have s1:=pJ (f:=fun x:List Int=>x.getD 2 0) (fun x y=>aLl 2 x y) (eN dl oc dc sk)
 have s2:=aLm (f:=fun x:List Int=>x.getD 2 0) (g:=fun x:List Int=>x.getD 0 0) (fun x y=>aLl 2 x y) (eN dl oc dc sk) Ut
 have hpl:=aEf _ s1;have hmI:∀ x,x∈isort (ltK 2) (eN dl oc dc sk)→x∈eN dl oc dc sk:=fun x hx=>(isort_mem _ _ x).1 hx
 have e:fN dl oc dc sk=((isort (ltK 2) (eN dl oc dc sk)).map fun x=>[x.getD 0 0,(lH (isort (ltK 2) (eN dl oc dc sk)) (x.getD 2 0):Int)+1,x.getD 2 0])++eU dl oc dc sk:=by
  unfold fN;rw [hpl]
 generalize isort (ltK 2) (eN dl oc dc sk)=I at s1 s2 hmI e
 have o1:∀ y∈eU dl oc dc sk,y.getD 1 0 = -1:=fun y hy=>by
  unfold eU at hy
  obtain ⟨s,_,rfl⟩:=Bi.1 hy;rfl
 refine ⟨?_,?_,?_⟩
 ·rw [e]
  refine List.pairwise_append.2 ⟨?_,?_,?_⟩
  ·rw [List.pairwise_map]
   refine s2.imp fun {a b} h => ?_
   refine ⟨fun h1=>absurd h1 ?_,fun _=>⟨?_,?_,?_⟩⟩
   ·show (lH I (b.getD 2 0):Int)+1 ≠ -1
    omega
   ·show (lH I (a.getD 2 0):Int)+1 ≠ -1
    omega
   ·show a.getD 2 0≤b.getD 2 0
    omega
   ·show a.getD 2 0=b.getD 2 0→a.getD 0 0<b.getD 0 0
    omega
  ·refine hO.imp_of_mem fun {a b} ha hb h=>⟨fun _ _=>h,fun h1=>absurd (o1 b hb) h1⟩
  ·intro a ha b hb
   obtain ⟨x,_,rfl⟩:=Bi.1 ha;refine ⟨fun _ h1=>absurd h1 ?_,fun h1=>absurd (o1 b hb) h1⟩
   show (lH I (x.getD 2 0):Int)+1 ≠ -1;omega
 ·have hc:∀ t,((fN dl oc dc sk).filter (inL t)).length=lH I t:=fun t=>by
   rw [e,aFz,kU];have z:(eU dl oc dc sk).filter (inL t)=[]:=by
    rw [List.filter_eq_nil_iff];intro y hy;unfold inL;rw [o1 y hy];simp
   rw [z,List.filter_map,Bt];unfold lH;rw [List.length_nil,Nat.add_zero]
   congr 1
   refine List.filter_congr fun x _ => ?_
   show decide ((lH I (x.getD 2 0):Int)+1 ≠ -1∧x.getD 2 0<t)=decide (x.getD 2 0<t)
   by_cases hx:x.getD 2 0<t
   ·rw [decide_eq_true hx,decide_eq_true ⟨by omega,hx⟩]
   ·rw [decide_eq_false hx,decide_eq_false fun h=>hx h.2]
  intro y hy h1;rw [hc];rw [e] at hy
  rcases dY.1 hy with hy | hy
  ·obtain ⟨x,_,rfl⟩:=Bi.1 hy
   show (lH I (x.getD 2 0):Int)+1=1+(lH I (x.getD 2 0):Int);omega
  ·exact absurd (o1 y hy) h1
 ·intro y hy
  rw [e] at hy
  rcases dY.1 hy with hy | hy
  ·obtain ⟨x,hx,rfl⟩:=Bi.1 hy
   have G4:=hmI x hx;unfold eN at G4
   obtain ⟨s,Bh,rfl⟩:=Bi.1 G4;obtain ⟨m1,m2⟩:=sP.1 Bh;refine ⟨s,m1,rfl,?_⟩;have m3:(dO dl oc dc (sB s) (sT s)).2=false:=by simpa using m2
   have m4:(decide ((lH I (dO dl oc dc (sB s) (sT s)).1:Int)+1 = -1))=false:=decide_eq_false (by omega)
   show dO dl oc dc (sB s) (sT s)=((dO dl oc dc (sB s) (sT s)).1,decide ((lH I (dO dl oc dc (sB s) (sT s)).1:Int)+1 = -1));rw [m4];exact Prod.ext rfl m3
  ·unfold eU at hy
   obtain ⟨s,Bh,rfl⟩:=Bi.1 hy;obtain ⟨m1,m2⟩:=sP.1 Bh;refine ⟨s,m1,rfl,?_⟩;show dO dl oc dc (sB s) (sT s)=(0,true);unfold dO at m2 ⊢
   split at m2
   ·rename_i h;rw [if_pos h]
   ·cases m2
def oM(f:List Int→Int × Bool)(S:Lqq)(t:Int):Nat:=(S.filter fun j => !(f j).2 && decide ((f j).1<t)).length
theorem bOm(hs:sk.Pairwise fun a b=>a.getD 0 0<b.getD 0 0)(t:Int):((fN dl oc dc sk).filter (inL t)).length=oM (fun s=>dO dl oc dc (sB s) (sT s)) sk t:=by
 have s1:=pJ (f:=fun x:List Int=>x.getD 2 0) (fun x y=>aLl 2 x y) (eN dl oc dc sk)
 have hp:=aWc (ltK 2) (eN dl oc dc sk);unfold fN;rw [aFz,kU,aEf _ s1];have z:(eU dl oc dc sk).filter (inL t)=[]:=by
  rw [List.filter_eq_nil_iff];intro y hy;unfold eU at hy
  obtain ⟨s,_,rfl⟩:=Bi.1 hy;simp [inL]
 rw [z,List.filter_map,Bt,List.length_nil,Nat.add_zero];have e1:∀ (I J:Lqq),(J.filter (inL t ∘ fun x=>[x.getD 0 0,(lH I (x.getD 2 0):Int)+1,x.getD 2 0]))=J.filter fun x=>decide (x.getD 2 0<t):=fun I J=>by
  refine List.filter_congr fun x _ => ?_
  show decide ((lH I (x.getD 2 0):Int)+1 ≠ -1∧x.getD 2 0<t)=decide (x.getD 2 0<t)
  by_cases hx:x.getD 2 0<t
  ·rw [decide_eq_true hx,decide_eq_true ⟨by omega,hx⟩]
  ·rw [decide_eq_false hx,decide_eq_false fun h=>hx h.2]
 rw [e1,(hp.filter _).length_eq];unfold eN oM;rw [List.filter_map,Bt,List.filter_filter]
 congr 1
 refine List.filter_congr fun s _ => ?_
 show (decide ((dO dl oc dc (sB s) (sT s)).1<t) && !(dO dl oc dc (sB s) (sT s)).2)=_;rw [Bool.and_comm]
def gU(f:List Int→Int × Bool)(S:Lqq)(k:List Int):Int:=if (f k).2 then -1 else 1+(oM f S (f k).1:Int)
theorem bOn(hs:sk.Pairwise fun a b=>a.getD 0 0<b.getD 0 0){k:List Int}(hk:k∈sk) :
  (fN dl oc dc sk).find? (fun y=>decide (y.getD 0 0=k.getD 0 0))=some [k.getD 0 0,gU (fun s=>dO dl oc dc (sB s) (sT s)) sk k,(dO dl oc dc (sB k) (sT k)).1]:=by
 obtain ⟨_,q2,q3⟩:=bOl (dl:=dl) (oc:=oc) (dc:=dc) hs;have hn:(bC sk 0).Nodup:=by
  unfold bC;rw [List.Nodup,List.pairwise_map];exact hs.imp fun h=>by omega
 cases hf:(fN dl oc dc sk).find? (fun y=>decide (y.getD 0 0=k.getD 0 0)) with
 | none =>
  exfalso
  have hno:=aCx.1 hf;have M3:∀ y∈fN dl oc dc sk,y.getD 0 0≠k.getD 0 0:=fun y hy e=>hno y hy (decide_eq_true e)
  cases ho:(dO dl oc dc (sB k) (sT k)).2 with
  | true =>
   refine M3 [sB k,-1,0] (oE _ ?_) rfl;unfold eU;exact Bi.2 ⟨k,sP.2 ⟨hk,ho⟩,rfl⟩
  | false =>
   have s1:=pJ (f:=fun x:List Int=>x.getD 2 0) (fun x y=>aLl 2 x y) (eN dl oc dc sk)
   have hm:[sB k,0,(dO dl oc dc (sB k) (sT k)).1]∈isort (ltK 2) (eN dl oc dc sk):=by
    rw [isort_mem];unfold eN;exact Bi.2 ⟨k,sP.2 ⟨hk,by rw [ho];rfl⟩,rfl⟩
   have hmem:[sB k,(lH (isort (ltK 2) (eN dl oc dc sk)) (dO dl oc dc (sB k) (sT k)).1:Int)+1,(dO dl oc dc (sB k) (sT k)).1]∈fN dl oc dc sk:=by
    unfold fN;rw [aEf _ s1];exact gD _ (Bi.2 ⟨_,hm,rfl⟩)
   exact M3 _ hmem rfl
 | some y =>
  have hy:=aAh hf;have hb:y.getD 0 0=k.getD 0 0:=by simpa using bDo hf
  obtain ⟨y0,y1,y2,rfl⟩:=Gp (aPu y hy);obtain ⟨s,h1,h2,h3⟩:=q3 _ hy;obtain rfl:s=k:=aKs hn h1 hk (h2.trans hb);have N8:dO dl oc dc (sB s) (sT s)=(y2,decide (y1 = -1)):=h3;have Al:y0=s.getD 0 0:=hb;rw [Option.some.injEq,Al,N8]
  congr 2
  unfold gU;dsimp only
  by_cases N9:y1 = -1
  ·rw [if_pos (by rw [N8];exact decide_eq_true N9)];exact N9
  ·rw [if_neg (by rw [N8];simpa using N9),N8]
   have:=q2 _ hy N9;rw [bOm hs] at this
   exact this
end
end
section
def prP(p:Int):Int:=if p > 0 then p else 0
def prM(dl:Int)(sk dc:Lqq):List Int:=sk.map fun s=>prP (gU (fun s=>dO dl [] (aW dc) (sB s) (sT s)) (aW sk) s)
theorem bYq{dl:Int}{S D:Lqq}(hs:S.Pairwise fun a b=>a.getD 0 0<b.getD 0 0){s:List Int}(hm:s∈S) :
  ∃ j:Nat,lnI (fN dl [] D S) (s.getD 0 0)=(j:Int)∧(fN dl [] D S)[j]? = some [s.getD 0 0,gU (fun s=>dO dl [] D (sB s) (sT s)) S s,(dO dl [] D (sB s) (sT s)).1]:=by
 have hf:=bOn (dl:=dl) (oc:=[]) (dc:=D) hs hm;obtain ⟨hp,i,hi,e,hj⟩:=List.find?_eq_some_iff_getElem.1 hf;refine ⟨i,?_,by rw [An hi,e]⟩
 unfold lnI;refine dR (List.findIdx?_eq_some_iff_getElem.2 ⟨hi,?_,fun j hji => ?_⟩)
 ·rw [e];exact beq_self_eq_true _
 ·have:=hj j hji
  simpa using this
theorem aUb{dl:Int}{sk dc:Lqq}(hr:fQ dl sk dc)(hl:sk.length<20)(hs:(aW sk).Pairwise fun a b=>a.getD 0 0<b.getD 0 0){base:Nat}:FV Tp 33 [.p (.agg (qZ dl sk dc))] base (.tup [.p (aC (prM dl sk dc)),.p (blP true)]) []:=by
 have hRl:(fN dl [] (aW dc) (aW sk)).length=sk.length:=by rw [bOj,oI]
 have L:=aE.range (P:=Tp) (k:=0) (b:=sub (cd Tryz.f33) ck) (e := .exit 0) (fun i (o:List Int)=>qV dl sk dc i o.length (o.map aA)) (fun o=>qV dl sk dc sk.length o.length (o.map aA)) (fun o s=>o++[prP (gU (fun s=>dO dl [] (aW dc) (sB s) (sT s)) (aW sk) s)]) (fun i o=>o.length=i) (by simp) sk (a0:=[]) rfl
  (fun i s o hx hi=>by
   have hm:=Br hx;have hlt:=aY hx;obtain ⟨j,h1,h2⟩:=bYq (dl:=dl) (D:=aW dc) hs ((cB sk).mem_iff.2 hm);have hj:=aY h2;obtain ⟨y0,y1,rfl⟩:=len2 (hr.us s hm);exact ⟨by simp [hi],bEb (o':=o++[prP _]) (by omega) hx hr.us aPu (by omega) h1 (by omega) (by omega) h2 ⟨rfl,by omega⟩ (aM (by omega)) rfl (by simp) (by rw [jJ];rfl)⟩)
  (fun o _=>bEc (by omega))
 have e:∀ (l:Lqq) (o:List Int),l.foldl (fun o s=>o++[prP (gU (fun s=>dO dl [] (aW dc) (sB s) (sT s)) (aW sk) s)]) o=o++l.map fun s=>prP (gU (fun s=>dO dl [] (aW dc) (sB s) (sT s)) (aW sk) s):=by
  intro l
  induction l with
  | nil=>intro o;simp
  | cons s l ih=>intro o;rw [qR,ih];simp
 rw [e,List.nil_append] at L
 exact bYu hr hl L
end
section
variable {mu wh Ao Ax:Int}{dc Aw Am:Lqq}{o4 D6 Et:List Int}{j k k':Nat}

noncomputable abbrev aDc:Code:=pS (cd Tryz.f6) 19 [0,1,0,0]
noncomputable abbrev aUa:Code:=pS (cd Tryz.f6) 6 [0,1,0,0]
theorem bMi:((0:Int) != 0)=false:=by first | decide | simp
def qU(wh mu:Int)(Am Aw:Lqq)(o4:List Int)(j dcn:Nat)(dcc:List PV):St:=⟨fr 221 [(2,(.p (.v (.int .u8 wh)))),(3,(.p (.v (.int .u8 mu)))),(8,(.kb false)),(9,(.ptr 0 0)),(11,(.fn 33 [] [])),(12,(.ptr 2 0)),(13,(.ptr 3 0)),(48,(.own 4)),(49,(pI (o4.length:Int))),(50,(pI (j:Int)))],[some (.box 26 [(pI 30),(.p (fS Am)),(.p (fS Aw))]),some (.row 84 Aw.length (Aw.flatten.map aA)),some (.box 26 [(pI 30),(.p (fS Am)),(.own 5)]),some (.box 26 [(pI 30),(.p (fS Am)),(.own 1)]),some (.row 3 o4.length (o4.map aA)),some (.row 84 dcn dcc)]⟩
def jK(wh:Int)(Am Aw:Lqq)(D6 Et:List Int)(k:Nat):St:=⟨fr 221 [(16,(pI (wh.tmod (Am.length:Int)))),(17,(.p (aC (prM 30 Am Aw)))),(28,(.p (aC D6))),(30,(.p (aC Et))),(176,(.p (aC (prM 30 Am Aw)))),(177,(pI ((prM 30 Am Aw).length:Int))),(178,(pI (k:Int)))],[]⟩
theorem bYp{l1 l2:List Int}{m2 t3 m5 t6:Int}{Sz:Nat}{Hq:Lqq}{y9 Lx:Int}{F4:Lqq}{O3:Nat}{Nw Nx:Int}(h0:0≤(0:Int)∧(0:Int)≤900)(h1:1≤(8:Int)∧(8:Int)≤30)(h2:0≤(16:Int)∧(16:Int)≤40)(h3:bMk 8 16 l1 0 (17:Int)=(Am,Aw,m2,t3))(h4:uni 2 Am)(h5:Am.length≤1000)(h6:uni 6 Aw)(h7:Aw.length≤1000)(h8:0≤(0:Int)∧(0:Int)≤1000000)(h9:0≤(Aw.length:Int)∧(Aw.length:Int)≤1000)(A5:qW (Aw.length:Int) l2 0 (17:Int)=(o4,m5,t6))(Ej:aE Tp 0 aUa (qU wh mu Am Aw o4 0 0 []) (.exit 0) (qU wh mu Am Aw o4 Sz Hq.length (Hq.flatten.map aA)))(Bu:inR wh)(Dd:(Am.length:Int)≠0)(Dq:Am[(wh.tmod (Am.length:Int)).toNat]? = some [y9,Lx])(G3:0≤(wh.tmod (Am.length:Int)))(Gk:inR mu)(Hr:[(aA 999),(aA 0),(aA 0),(aA y9),(aA mu),(aA 0)].length=1*6∧Aw.length+1≤1000000)(Ki:fQ 30 Am Aw)(Kj:Am.length<20)(Kk:(aW Am).Pairwise fun a b=>a.getD 0 0<b.getD 0 0)(S0:fQ 30 Am Hq)(Ix:(Aw.length+1)=F4.length)(S2:((Aw.flatten.map aA)++[(aA 999),(aA 0),(aA 0),(aA y9),(aA mu),(aA 0)])=(F4.flatten.map aA))(S3:fQ 30 Am F4)(O4:(prM 30 Am Aw).length≤1000)(S4:(decide ((prM 30 Am Aw)=(prM 30 Am Hq)))=true)(S5:∀ {base:Nat},FV Tp 18 [(.p (.agg [(aA (Am.length:Int)),(aA 1),(aA 1),(.sl 8 [(aA 30),(aA 24),(aA 19),(aA 15),(aA 12),(aA 10),(aA 8),(aA 7)]),cX])),(.p (.sl 1 [(aC (prM 30 Am Aw))]))] base (.tup [(.p (.agg [(aA (Am.length:Int)),(aA 1),(aA 1),(.sl 8 [(aA 30),(aA 24),(aA 19),(aA 15),(aA 12),(aA 10),(aA 8),(aA 7)]),(.sl 1 [(aC (prM 30 Am Aw))])])),(pI 0)]) [])(S6:∀ {base:Nat},FV Tp 18 [(.p (.agg [(aA (Am.length:Int)),(aA 1),(aA 1),(.sl 8 [(aA 30),(aA 24),(aA 19),(aA 15),(aA 12),(aA 10),(aA 8),(aA 7)]),cX])),(.p (.sl 1 [(aC (prM 30 Am F4))]))] base (.tup [(.p (.agg [(aA (Am.length:Int)),(aA 1),(aA 1),(.sl 8 [(aA 30),(aA 24),(aA 19),(aA 15),(aA 12),(aA 10),(aA 8),(aA 7)]),(.sl 1 [(aC (prM 30 Am F4))])])),(pI 0)]) [])(S7:∀ {base:Nat},FV Tp 39 [(.p (.agg [(aA (Am.length:Int)),(aA 1),(aA 1),(.sl 8 [(aA 30),(aA 24),(aA 19),(aA 15),(aA 12),(aA 10),(aA 8),(aA 7)]),(.sl 1 [(aC (prM 30 Am Aw))])]))] base (.tup [(.p (aC D6)),(pI 0)]) [])(S8:∀ {base:Nat},FV Tp 39 [(.p (.agg [(aA (Am.length:Int)),(aA 1),(aA 1),(.sl 8 [(aA 30),(aA 24),(aA 19),(aA 15),(aA 12),(aA 10),(aA 8),(aA 7)]),(.sl 1 [(aC (prM 30 Am F4))])]))] base (.tup [(.p (aC Et)),(pI 0)]) [])(S9:(D6.length:Int)=((prM 30 Am Aw).length:Int))(Ta:(Et.length:Int)=((prM 30 Am Aw).length:Int))(Ly:aE Tp 0 aDc (jK wh Am Aw D6 Et 0) (.exit 2) (jK wh Am Aw D6 Et O3))(Ny:Et[(wh.tmod (Am.length:Int)).toNat]? = some Nw)(Q8:D6[(wh.tmod (Am.length:Int)).toNat]? = some Nx)(Q9:Nw≤Nx)(O5:∀ {base:Nat},FV Tp 40 [] base (pB true) []){base:Nat}:FV Tp 6 [(.p (.sl l1.length (l1.map cT))),(.p (.sl l2.length (l2.map cT))),(.p (.v (.int .u8 wh))),(.p (.v (.int .u8 mu)))] base (pB true) []:=by
 have k1:=mq [] 0 (ofO l1);have k2:=mq [0] 1 (bYw 8 16 l1 0 17 h0 h1 h2 h3);have k3:=mq [] 2 (ofO l2);have k4:=mq [] 3 (bNa 30 Am Aw h4 h5 h6 h7);have k5:=mq [] 11 (bNa 30 Am Aw h4 h5 h6 h7);have k6:=mq [2] 21 (bSh (Aw.length:Int) l2 0 17 h8 h9 A5);have k7:=fk 5 (aUb Ki Kj Kk) rfl;have k8:=fk 5 (aUb S0 Kj Kk) rfl;have k9:=fk 5 (eqi_ok (prM 30 Am Aw) (prM 30 Am Hq) O4) rfl;have Ra:=fk 10 S7 rfl;have Js:=fk 10 S8 rfl;exact FV.fi func6 ([k1.o,k2.o,k3.o,k4.o,k5.o,k6.o,Ej.k 1 (gN av [1,11,19,20,21,22] [(119002,84)]),.x (aA y9),.g 1 ⟨[72],[0,2,3,4,6],[5,7],[]⟩,k7.o,k8.o,.c (.tup [(.p (aC (prM 30 Am F4))),(pB true)]) []]++rF 9++[k9.o,bF,bF,bF,.g 3 ⟨[],[0,1,2,3,4,6],[5],[]⟩,.c (.tup [(.p (.agg [(aA (Am.length:Int)),(aA 1),(aA 1),(.sl 8 [(aA 30),(aA 24),(aA 19),(aA 15),(aA 12),(aA 10),(aA 8),(aA 7)]),(.sl 1 [(aC (prM 30 Am Aw))])])),(pI 0)]) [(6,.dead)],.c (.tup [(.p (.agg [(aA (Am.length:Int)),(aA 1),(aA 1),(.sl 8 [(aA 30),(aA 24),(aA 19),(aA 15),(aA 12),(aA 10),(aA 8),(aA 7)]),(.sl 1 [(aC (prM 30 Am F4))])])),(pI 0)]) [(8,.dead)],Ra.o,Js.o]++rF 22++[Ly.k 4 (gZ aw),.x (aA Nw),.x (aA Nx),bT,.c (pB true) [],bT]) (gc (uD Q9) (gc (fk 0 O5 rfl) (gc (uD Q9) (gt ((D6.map aA)[((wh.tmod (Am.length:Int)).toNat*1)]? = some (aA Nx)) (cE (i:=(wh.tmod (Am.length:Int)).toNat) Q8) (gc (gQ (g:=aA) G3 Q8) (gt ((Et.map aA)[((wh.tmod (Am.length:Int)).toNat*1)]? = some (aA Nw)) (cE (i:=(wh.tmod (Am.length:Int)).toNat) Ny) (gc (gQ (g:=aA) G3 Ny) (gc Ly.code (gc (cR Ta) (Ho (cR S9) (Fy bMi (Ea bMi (gc Js (gc Ra (gt (FC Tp 18 [(.p (.agg [(aA (Am.length:Int)),(aA 1),(aA 1),(.sl 8 [(aA 30),(aA 24),(aA 19),(aA 15),(aA 12),(aA 10),(aA 8),(aA 7)]),cX])),(.own 8)] [(8,(.row 31 1 [(aC (prM 30 Am F4))]))] 9 (.tup [(.p (.agg [(aA (Am.length:Int)),(aA 1),(aA 1),(.sl 8 [(aA 30),(aA 24),(aA 19),(aA 15),(aA 12),(aA 10),(aA 8),(aA 7)]),(.sl 1 [(aC (prM 30 Am F4))])])),(pI 0)]) [(8,.dead)]) (FV.close (ids:=[8]) (A2:=[(.p (.agg [(aA (Am.length:Int)),(aA 1),(aA 1),(.sl 8 [(aA 30),(aA 24),(aA 19),(aA 15),(aA 12),(aA 10),(aA 8),(aA 7)]),cX])),(.p (.sl 1 [(aC (prM 30 Am F4))]))]) S6 (by kernel_rfl)) (gt (FC Tp 18 [(.p (.agg [(aA (Am.length:Int)),(aA 1),(aA 1),(.sl 8 [(aA 30),(aA 24),(aA 19),(aA 15),(aA 12),(aA 10),(aA 8),(aA 7)]),cX])),(.own 6)] [(6,(.row 31 1 [(aC (prM 30 Am Aw))]))] 7 (.tup [(.p (.agg [(aA (Am.length:Int)),(aA 1),(aA 1),(.sl 8 [(aA 30),(aA 24),(aA 19),(aA 15),(aA 12),(aA 10),(aA 8),(aA 7)]),(.sl 1 [(aC (prM 30 Am Aw))])])),(pI 0)]) [(6,.dead)]) (FV.close (ids:=[6]) (A2:=[(.p (.agg [(aA (Am.length:Int)),(aA 1),(aA 1),(.sl 8 [(aA 30),(aA 24),(aA 19),(aA 15),(aA 12),(aA 10),(aA 8),(aA 7)]),cX])),(.p (.sl 1 [(aC (prM 30 Am Aw))]))]) S5 (by kernel_rfl)) (gc (aH S4) (gf (gf (gc k9 (gf (gf (gf (gf (gf (gf (gf (gf (gf (gt (FC Tp 33 [(.p (.agg [(aA 30),(fS Am),(.sl (Aw.length+1) ((Aw.flatten.map aA)++[(aA 999),(aA 0),(aA 0),(aA y9),(aA mu),(aA 0)]))]))] [] 5 (.tup [(.p (aC (prM 30 Am F4))),(pB true)]) []) (FV.fc (by rw [show ((.sl (Aw.length+1) ((Aw.flatten.map aA)++[(aA 999),(aA 0),(aA 0),(aA y9),(aA mu),(aA 0)])):PV) = .sl F4.length (F4.flatten.map aA) from by rw [Ix,S2]];exact (aUb S3 Kj Kk)) rfl) (gc k8 (gc k7 (gc Hr (gt ([(aA 999),(aA 0),(aA 0),(aA y9),(aA mu),(aA 0)].length=6) (by first | decide | simp) (gc Gk (gt ((Am.flatten.map aA)[((wh.tmod (Am.length:Int)).toNat*2)]? = some (aA y9)) (dL (i:=(wh.tmod (Am.length:Int)).toNat) (f:=0) h4 Dq rfl) (gc (bMf (k:=2) (i:=(wh.tmod (Am.length:Int))) (by decide) h4 G3 Dq) (gc Dd (gc Bu (gc Ej.code (gc k6 (gc k5 (gc k4 (gc k3 (gc k2 (gc k1 gn))))))))))))))))))))))))))))))))))))))))))))))
theorem bDs{Ac Ab Ad Af Ae Ag Cd:Int}{j':Nat}{C8:Lqq}(h0:(j:Int)<(o4.length:Int))(h1:o4[j]? = some Ac)(h2:Aw[Ac.toNat]? = some [Ab,Ad,Af,Ae,Ag,Cd])(h3:0≤Ac)(h4:uni 6 Aw)(h5:[(aA Ab),(aA Ad),(aA Af),(aA Ae),(aA Ag),(aA Cd)].length=1*6∧dc.length+1≤1000000)(h6:di j)(C6:j'=(j+1))(Du:C8.length=(dc.length+1))(Dv:C8.flatten.map aA=((dc.flatten.map aA)++[(aA Ab),(aA Ad),(aA Af),(aA Ae),(aA Ag),(aA Cd)])):aB Tp 0 aUa (qU wh mu Am Aw o4 j dc.length (dc.flatten.map aA)) .normal (qU wh mu Am Aw o4 j' C8.length (C8.flatten.map aA)):=by
 subst C6;rw [Du,Dv];exact aB.fi (gI av [0,1,2,3,4,7]) [bT,.x (aA Ac),.x (.agg [(aA Ab),(aA Ad),(aA Af),(aA Ae),(aA Ag),(aA Cd)])] (gc h6 (gc h5 (gt ([(aA Ab),(aA Ad),(aA Af),(aA Ae),(aA Ag),(aA Cd)].length=6) (by first | decide | simp) (gfz h4 h3 h2 (gc (atm aA h1) (gc (aZ (i:=(j:Int)) (jA _) h1) (g0 h0)))))))
theorem bDt(h0:(o4.length:Int)≤(j:Int)):aB Tp 0 aUa (qU wh mu Am Aw o4 j dc.length (dc.flatten.map aA)) (.exit 0) (qU wh mu Am Aw o4 j dc.length (dc.flatten.map aA)):=aB.fi (gI av [0,1,2,3,4,5]) [bF] (gc (aQ h0) gn)
section
variable(h0:(k:Int)<((prM 30 Am Aw).length:Int))(h1:(prM 30 Am Aw)[k]? = some Ao)
include h0 h1
theorem bDu(h2:Ao=0)(h3:D6[k]? = some Ax)(h4:Ax=0)(h5:Ao≠1)(h6:di k)(Lz:k'=(k+1)):aB Tp 0 aDc (jK wh Am Aw D6 Et k) .normal (jK wh Am Aw D6 Et k'):=by
 subst Lz;exact aB.fi (gZ aw) ([bT,.x (aA Ao),bT,bT,bT,bT,.x (aA Ax),bT,bT]++rF 16) (gc h6 (gc (cR h4) (gc (bK h5) (gc (cR h4) (Fy (bK h5) (Ap (bK h5) (Aq (cR h4) (Ap (cF h2) (gc (atm aA h3) (gc (cF h2) (gc (ixn aA h3) (Aq (cF h2) (gc (atm aA h1) (gc (ixn aA h1) (g0 h0)))))))))))))))
theorem bDv{Ek:Int}(h2:Ao≠0)(h3:Ao=1)(h4:D6[k]? = some Ax)(h5:(prM 30 Am Aw).length≤1000)(h6:D6[(fC (fun x=>decide ((1:Int)=x)) (prM 30 Am Aw)).toNat]? = some Ek)(h7:0≤(fC (fun x=>decide ((1:Int)=x)) (prM 30 Am Aw)))(h8:Ax=Ek)(h9:di k)(Lz:k'=(k+1)):aB Tp 0 aDc (jK wh Am Aw D6 Et k) .normal (jK wh Am Aw D6 Et k'):=by
 subst Lz;have k1:=fk 0 (bMr (prM 30 Am Aw) 1 h5) rfl;exact aB.fi (gZ aw) ([bT,.x (aA Ao)]++rF 6++[bT,bT,bT,bT,.x (aA Ax),bT,bT,bT,k1.o,bT,bT,.x (aA Ek),bT,bT,bF]) (gc h9 (gc (cR h8) (Ap (cF h3) (gt ((D6.map aA)[((fC (fun x=>decide ((1:Int)=x)) (prM 30 Am Aw)).toNat*1)]? = some (aA Ek)) (cE (i:=(fC (fun x=>decide ((1:Int)=x)) (prM 30 Am Aw)).toNat) h6) (gc (cF h3) (gc (gQ (g:=aA) h7 h6) (gc (cF h3) (gc k1 (Aq (cF h3) (gc (atm aA h4) (gc (cF h3) (gc (ixn aA h4) (Aq (cF h3) (Ho (bK h2) (gc (atm aA h1) (gc (ixn aA h1) (g0 h0)))))))))))))))))
theorem bDw(h2:Ao≠0)(h3:Ao≠1)(h4:di k)(Lz:k'=(k+1)):aB Tp 0 aDc (jK wh Am Aw D6 Et k) .normal (jK wh Am Aw D6 Et k'):=by
 subst Lz;exact aB.fi (gZ aw) ([bT,.x (aA Ao)]++rF 17) (gc h4 (Fy (bK h3) (Aq (bK h3) (Ho (bK h2) (gc (atm aA h1) (gc (ixn aA h1) (g0 h0)))))))
end
theorem bDx(h0:((prM 30 Am Aw).length:Int)≤(k:Int)):aB Tp 0 aDc (jK wh Am Aw D6 Et k) (.exit 2) (jK wh Am Aw D6 Et k):=aB.fi (gZ aw) [bF] (gc (aQ h0) gn)
end
section

end
section
end
section
variable {P:Program}
end
section

end
section
variable {F:Fence} {n:Nat} {P:Program}
end
section
section
variable {F:Fence} {n:Nat} {P:Program}
end
variable {P:Program} {T:TT} {E:Env}
end
section
end
section

end
end KV
end Go.Proofs
section
namespace Go.Proofs
open Go.RowKit
namespace KV
open Tryz
end KV
end Go.Proofs
end
namespace Go.Proofs
namespace KV
open Tryz
section
end
section

end
end KV
end Go.Proofs
section
namespace Go.Proofs
namespace KL
end KL
namespace KV
open Tryz
end KV
end Go.Proofs
end
namespace Go.Proofs
namespace KV
open Tryz
section

end
section
section
variable {dl:Int} {oc:List Int} {D:Lqq} {x:List Int}
theorem bOq{y:List Int}{t:List DS}{s:DS}(h:dAb s.x≠dN y):mkS dl oc y (t++[s])=mkS dl oc y t:=by
 have e:kG (t++[s]) (dN y)=kG t (dN y):=by
  unfold kG;rw [List.reverse_append,List.reverse_singleton,List.singleton_append,List.filter_cons_of_neg];simpa using h
 unfold mkS;rw [e]
theorem yM:∀ {D:Lqq},(∀ y∈D,dAb x≠dN y)→gT dl oc (D++[x])=gT dl oc D++[mkS dl oc x []]
 | [],_=>rfl
 | y::D,h=>by
  rw [List.cons_append,gT,gT,yM fun z hz=>h z (B3 _ hz),bOq (h y (gO ..))]
  rfl
theorem bOr(h:∀ y∈D,dAb x≠dN y){y:List Int}(hy:y∈D):stF dl oc (D++[x]) y=stF dl oc D y:=by
 unfold stF;rw [yM h,List.find?_append];have:((gT dl oc D).find? fun s=>s.x == y).isSome=true:=by
  rw [List.find?_isSome];rw [← aLh dl oc D] at hy
  obtain ⟨s,h1,h2⟩:=Bi.1 hy;exact ⟨s,h1,by rw [h2];exact beq_self_eq_true y⟩
 obtain ⟨s,hs⟩:=Option.isSome_iff_exists.1 this;rw [hs];rfl
theorem aPx(h:∀ y∈D,dAb x≠dN y)(hx:x∉D):stF dl oc (D++[x]) x=mkS dl oc x []:=by
 unfold stF;rw [yM h,List.find?_append];have:((gT dl oc D).find? fun s=>s.x == x)=none:=by
  rw [aCx];intro s hs he;have h1:s.x∈(gT dl oc D).map (·.x):=Bi.2 ⟨s,hs,rfl⟩
  rw [aLh] at h1
  have:s.x=x:=by simpa using he
  exact hx (this ▸ h1)
 rw [this];show ([mkS dl oc x []].find? fun s=>s.x == x).getD _=_
 rw [List.find?_cons_of_pos (by show ((mkS dl oc x []).x == x)=true;exact beq_self_eq_true x)]
 rfl
theorem wL{α β:Type}(f g:β→α→β):∀ (l:List α) (b:β),(∀ x∈l,∀ b,f b x=g b x)→l.foldl f b=l.foldl g b
 | [],_,_=>rfl
 | x::l,b,h=>by
  rw [qR,qR,h x (gO ..),wL f g l _ fun y hy=>h y (B3 _ hy)]
theorem aIo(h:∀ y∈D,dAb x≠dN y)(hx:x∉D)(hk:dK x=0∨dK x=1∨dK x=3)(b t:Int) :
  aKx dl oc (D++[x]) b t=if dB x=b then ((aKx dl oc D b t).1 || dK x == 3,byI (dK x) (aKx dl oc D b t).2 (dMu x)) else aKx dl oc D b t:=by
 unfold aKx;rw [vX];have e:D.foldl (aGb dl oc (D++[x]) b) (t == -1,t)=D.foldl (aGb dl oc D b) (t == -1,t):=wL _ _ _ _ fun y hy a=>by
  unfold aGb aUy dM aGc oK;rw [bOr h hy]
 rw [e];show aGb dl oc (D++[x]) b _ x=_;have hc:dM dl oc (D++[x]) x=true:=by
  unfold dM;rw [aPx h hx];have:mY (dK x)=false:=by unfold mY;rcases hk with q | q | q <;> rw [q] <;> rfl
  show (!pT dl x && !(([]:List DS).reverse.filter _).any _)=true;unfold pT;rw [this];rfl
 have hm:oK dl oc (D++[x]) x=dMu x:=by
  unfold oK;rw [aPx h hx];rfl
 have h4:decide (dK x≤4)=true:=decide_eq_true (by omega)
 have h5:(dK x == 4)=false:=by rcases hk with q | q | q <;> rw [q] <;> rfl
 unfold aGb aUy;rw [hc,hm,h4,h5]
 by_cases hb:dB x=b
 ·rw [if_pos hb,hb];simp
 ·rw [if_neg hb]
  have:(dB x == b)=false:=by simpa using hb
  rw [this];simp
end
theorem aWm{l:Lqq}{x:List Int}(hn:(bC (l++[x]) 0).Nodup)(h:∀ y∈l,y.getD 0 0≤x.getD 0 0):aW (l++[x])=aW l++[x]:=by
 refine (uF hn ((cB l).append_right [x]) ?_).symm;rw [List.pairwise_append];refine ⟨jL l,List.pairwise_singleton _ _,fun a ha b hb => ?_⟩
 rw [List.mem_singleton.1 hb];exact h a ((cB l).mem_iff.1 ha)
end
section
section
variable {dl:Int} {oc:List Int} {D:Lqq} {x:List Int}
theorem bVr(h:∀ y∈D,dAb x≠dN y)(hx:x∉D)(hk:dK x=0∨dK x=1∨dK x=3){b t:Int}(hb:dB x≠b):dO dl oc (D++[x]) b t=dO dl oc D b t:=by
 unfold dO;rw [aIo h hx hk,if_neg hb]
theorem bOp(h:∀ y∈D,dAb x≠dN y)(hx:x∉D)(hk:dK x=0)(hm:0≤dMu x){b t:Int}(hb:dB x=b):(dO dl oc (D++[x]) b t).2=(dO dl oc D b t).2∧(dO dl oc D b t).1≤(dO dl oc (D++[x]) b t).1:=by
 unfold dO;rw [aIo h hx (.inl hk),if_pos hb,hk];cases (aKx dl oc D b t).1 with
 | true=>simp
 | false =>
  simp only [byI];have C7:=hm;simp only [dMu,Bj] at C7
  refine ⟨by simp,?_⟩
  simp;omega
end
theorem fQ.more{dl:Int}{sk dc:Lqq}{x:List Int}(h:fQ dl sk dc)(hl:dc.length<40)(h6:x.length=6)(h1:dcB x=true)(h2:inB sk x=true)(h3:orB x=true)(hn:∀ y∈dc,y.getD 0 0≠x.getD 0 0):fQ dl sk (dc++[x]):=by
 have mem:∀ {p:List Int→Prop},(∀ y∈dc,p y)→p x→∀ y∈dc++[x],p y:=fun h hx y hy=>by
  rcases dY.1 hy with hy | hy
  ·exact h y hy
  ·rw [List.mem_singleton.1 hy];exact hx
 refine ⟨h.us,mem h.ud h6,h.len,by simp;omega,h.hdl,h.hsk,mem h.hdc h1,h.ns,?_,mem h.inb h2,mem h.ord h3⟩
 unfold bC;rw [jJ,List.nodup_append];refine ⟨h.nd,by simp,fun a ha b hb => ?_⟩
 obtain ⟨y,hy,rfl⟩:=Bi.1 ha;obtain rfl:b=x.getD 0 0:=by simpa using hb
 exact hn y hy
theorem bGw{dl:Int}{sk dc:Lqq}(h:fQ dl sk dc):(aW sk).Pairwise fun a b=>a.getD 0 0<b.getD 0 0:=by
 have h1:=jL sk;have h2:(aW sk).Pairwise fun a b=>a.getD 0 0≠b.getD 0 0:=by
  have:=zR h.ns;unfold bC at this
  exact List.pairwise_map.1 this
 exact (h1.and h2).imp fun {a b} h=>by have:=h.1;have:=h.2;omega
end
section
def aPw(f:List Int→Int × Bool)(S:Lqq)(t:Int):Nat:=(S.filter fun j => !(f j).2 && decide ((f j).1=t)).length
theorem aBc{α:Type}{A B D:α→Bool}:∀ (l:List α),(∀ x∈l,A x=true→D x=true)→(∀ x∈l,B x=true→D x=true)→(∀ x∈l,¬ (A x=true∧B x=true))→(l.filter A).length+(l.filter B).length≤(l.filter D).length
 | [],_,_,_=>by simp
 | x::l,h1,h2,h3=>by
  have ih:=aBc l (fun y hy=>h1 y (B3 _ hy)) (fun y hy=>h2 y (B3 _ hy)) (fun y hy=>h3 y (B3 _ hy))
  have a1:=h1 x (gO ..);have a2:=h2 x (gO ..);have a3:=h3 x (gO ..);rw [List.filter_cons,List.filter_cons,List.filter_cons];cases hA:A x <;> cases hB:B x <;> cases hD:D x <;> simp_all <;> omega
theorem bOo{α:Type}{A B D:α→Bool}:∀ (l:List α),(∀ x∈l,A x=true→B x=true∨D x=true)→(l.filter A).length≤(l.filter B).length+(l.filter D).length
 | [],_=>by simp
 | x::l,h1=>by
  have ih:=bOo l (fun y hy=>h1 y (B3 _ hy))
  have a1:=h1 x (gO ..);rw [List.filter_cons,List.filter_cons,List.filter_cons];cases hA:A x <;> cases hB:B x <;> cases hD:D x <;> simp_all <;> omega
section
variable {f g:List Int→Int × Bool} {S sk:Lqq}
theorem aBd(t u:Int)(h:t<u):oM f S t+aPw f S t≤oM f S u:=by
 unfold oM aPw;refine aBc S (fun x _ h1 => ?_) (fun x _ h1 => ?_) (fun x _ h1 => ?_) <;> simp at h1 ⊢
 ·exact ⟨h1.1,by omega⟩
 ·exact ⟨h1.1,by omega⟩
 ·omega
theorem nB(t:Int):oM f S t+aPw f S t≤S.length:=by
 have:=aBc (A:=fun j => !(f j).2 && decide ((f j).1<t)) (B:=fun j => !(f j).2 && decide ((f j).1=t)) (D:=fun _=>true) S (fun _ _ _=>rfl) (fun _ _ _=>rfl) (fun x _ h1=>by simp at h1;omega)
 rw [List.filter_eq_self.2 (fun _ _=>rfl)] at this
 exact this
theorem wK{k:List Int}(hk:k∈S)(ho:(f k).2=false):1≤aPw f S (f k).1:=List.length_pos_of_mem (sP.2 ⟨hk,by simp [ho]⟩)
theorem rJ{k:List Int}(ho:(f k).2=false):prP (gU f S k)=1+(oM f S (f k).1:Int):=by
 have e:gU f S k=1+(oM f S (f k).1:Int):=if_neg (by simp [ho])
 unfold prP;rw [e,if_pos (by omega)]
theorem aBe{k:List Int}(ho:(f k).2=true):prP (gU f S k)=0:=by
 unfold prP gU;rw [if_pos ho];rfl
theorem cCp{j k:List Int}(hj:j∈S)(hk:k∈S)(ho:(f k).2=false):(prP (gU f S j)=prP (gU f S k))↔((f j).2=false∧(f j).1=(f k).1):=by
 rw [rJ ho];cases D4:(f j).2 with
 | true=>rw [aBe D4];simp;omega
 | false =>
  rw [rJ D4];refine ⟨fun h=>⟨rfl,?_⟩,fun h=>by rw [h.2]⟩
  have h1:=wK hj D4;have h2:=wK hk ho
  rcases Int.lt_trichotomy (f j).1 (f k).1 with h3 | h3 | h3
  ·have:=aBd (f:=f) (S:=S) _ _ h3;omega
  ·exact h3
  ·have:=aBd (f:=f) (S:=S) _ _ h3;omega
theorem uL(hp:S.Perm sk){k:List Int}(hk:k∈S)(ho:(f k).2=false):(sk.map fun s=>prP (gU f S s)).count (prP (gU f S k))=aPw f S (f k).1:=by
 rw [List.count_eq_countP,List.countP_map,← hp.countP_eq,List.countP_eq_length_filter];unfold aPw
 congr 1
 refine List.filter_congr fun j hj => ?_
 have:=cCp hj hk ho;simp only [Function.comp];rw [Bool.eq_iff_iff];simpa using this
theorem aLo(hp:S.Perm sk){x:Int}(hx:x∈sk.map fun s=>prP (gU f S s))(h0:x≠0):∃ k∈S,(f k).2=false∧x=prP (gU f S k):=by
 obtain ⟨k,hk,rfl⟩:=Bi.1 hx;refine ⟨k,hp.mem_iff.2 hk,?_,rfl⟩;cases ho:(f k).2 with
 | false=>rfl
 | true=>exact absurd (aBe ho) h0
theorem aWk(hp:S.Perm sk)(hl:sk.length≤60):∀ p∈(sk.map fun s=>prP (gU f S s)),p≠0→p+((sk.map fun s=>prP (gU f S s)).count p:Nat)≤61∧∀ q∈(sk.map fun s=>prP (gU f S s)),p<q→p+((sk.map fun s=>prP (gU f S s)).count p:Nat)≤q:=by
 intro p hpm h0;obtain ⟨k,hk,ho,rfl⟩:=aLo hp hpm h0;rw [uL hp hk ho];have h1:=nB (f:=f) (S:=S) (f k).1;have h2:=hp.length_eq;refine ⟨by rw [rJ ho];omega,fun q hq hlt => ?_⟩
 have hpos:prP (gU f S k)=1+(oM f S (f k).1:Int):=rJ ho;obtain ⟨j,hj,hjo,rfl⟩:=aLo hp hq (by omega)
 rw [rJ hjo] at hlt ⊢
 rw [hpos] at hlt ⊢
 have h3:(f k).1<(f j).1:=by
  rcases Int.lt_trichotomy (f k).1 (f j).1 with h3 | h3 | h3
  ·exact h3
  ·rw [h3] at hlt;omega
  ·have:=aBd (f:=f) (S:=S) _ _ h3;omega
 have:=aBd (f:=f) (S:=S) _ _ h3;omega
theorem bVo(hp:S.Perm sk):∀ x∈(sk.map fun s=>prP (gU f S s)),0≤x∧x≤sk.length:=by
 intro x hx
 by_cases h0:x=0
 ·omega
 ·obtain ⟨k,hk,ho,rfl⟩:=aLo hp hx h0
  have h1:=nB (f:=f) (S:=S) (f k).1;have h2:=wK hk ho;have h3:=hp.length_eq;rw [rJ ho];omega
end
def bGv(pts:List Int)(place many:Nat):Int:=((pts.drop (place-1)).take many).sum
def aWl(pts race:List Int)(p:Int):Int:=if p=0 then 0 else bGv pts p.toNat (race.count p) / (race.count p:Int)
def Dt:List Int:=[30,24,19,15,12,10,8,7]
theorem bVp:((List.range 9).all fun p=>(List.range 9).all fun m=>(List.range 10).all fun q=>(List.range 9).all fun n => !(decide (1≤p) && decide (1≤m) && decide (1≤n) && decide (p+m≤q+1)) || decide (bGv Dt q n / (n:Int)≤bGv Dt p m / (m:Int)))=true:=by decide +kernel
theorem cCq{p m q n:Nat}(hp:1≤p∧p≤8)(hm:1≤m∧m≤8)(hq:q≤9)(hn:1≤n∧n≤8)(h:p+m≤q+1):bGv Dt q n / (n:Int)≤bGv Dt p m / (m:Int):=by
 have h1:=fL.1 bVp p (qT.2 (by omega))
 have h2:=fL.1 h1 m (qT.2 (by omega))
 have h3:=fL.1 h2 q (qT.2 (by omega))
 have h4:=fL.1 h3 n (qT.2 (by omega))
 simp only [aKm,Bool.not_eq_true',decide_eq_true_eq] at h4
 rcases h4 with h4 | h4
 ·simp [hp.1,hm.1,hn.1,h] at h4
 ·exact h4
theorem bVq{f g:List Int→Int × Bool}{S sk:Lqq}{s:List Int}(hp:S.Perm sk)(hl:sk.length≤8)(hn:S.Nodup)(hs:s∈S)(hne:∀ j∈S,j≠s→g j=f j)(h:(g s).2=(f s).2∧(f s).1≤(g s).1) :
  aWl Dt (sk.map fun s=>prP (gU g S s)) (prP (gU g S s))≤aWl Dt (sk.map fun s=>prP (gU f S s)) (prP (gU f S s)):=by
 have hlen:=hp.length_eq;cases ho:(f s).2 with
 | true =>
  rw [aBe (ho ▸ h.1),aBe ho];exact aTx _
 | false =>
  have hg:(g s).2=false:=h.1.trans ho;have c1:=nB (f:=f) (S:=S) (f s).1;have c2:=nB (f:=g) (S:=S) (g s).1;have t1:=wK hs ho;have t2:=wK hs hg
  by_cases e:(f s).1=(g s).1
  ·have hall:∀ j∈S,g j=f j:=fun j hj=>by
    by_cases D4:j=s
    ·subst D4;exact Prod.ext e.symm h.1
    ·exact hne j hj D4
   have hc:∀ t,oM g S t=oM f S t:=fun t=>by
    unfold oM
    congr 1
    exact List.filter_congr fun j hj=>by rw [hall j hj]
   have hpl:∀ j∈S,gU g S j=gU f S j:=fun j hj=>by
    unfold gU;rw [hall j hj,hc]
   have:(sk.map fun s=>prP (gU g S s))=sk.map fun s=>prP (gU f S s):=xX fun j hj=>by rw [hpl j (hp.mem_iff.2 hj)]
   rw [this,hpl s hs];exact aTx _
  ·have hlt:(f s).1<(g s).1:=by omega
   have hk:=bOo (A:=fun j => !(f j).2 && (decide ((f j).1<(f s).1) || decide ((f j).1=(f s).1))) (B:=fun j => !(g j).2 && decide ((g j).1<(g s).1)) (D:=fun j=>decide (j=s)) S (fun x hx h1=>by
    by_cases Ry:x=s
    ·exact .inr (decide_eq_true Ry)
    ·left
     rw [hne x hx Ry];simp at h1 ⊢
     exact ⟨h1.1,by omega⟩)
   have Jt:(S.filter fun j=>decide (j=s)).length≤1:=by
    have:=List.nodup_iff_count.1 hn s;rw [List.count_eq_countP,List.countP_eq_length_filter] at this
    refine jY (Nat.le_of_eq (congrArg List.length (List.filter_congr fun j _ => ?_))) this
    rw [Bool.eq_iff_iff];simp
   have Eh:oM f S (f s).1+aPw f S (f s).1≤(S.filter fun j => !(f j).2 && (decide ((f j).1<(f s).1) || decide ((f j).1=(f s).1))).length:=by
    unfold oM aPw;refine aBc S (fun x _ h1 => ?_) (fun x _ h1 => ?_) (fun x _ h1 => ?_) <;> simp at h1 ⊢
    ·exact ⟨h1.1,.inl h1.2⟩
    ·exact ⟨h1.1,.inr h1.2⟩
    ·omega
   have hk3:(S.filter fun j => !(g j).2 && decide ((g j).1<(g s).1)).length=oM g S (g s).1:=rfl
   unfold aWl;rw [uL hp hs hg,uL hp hs ho,rJ ho,rJ hg,if_neg (by omega),if_neg (by omega)]
   have e1:(1+(oM g S (g s).1:Int)).toNat=1+oM g S (g s).1:=by omega
   have e2:(1+(oM f S (f s).1:Int)).toNat=1+oM f S (f s).1:=by omega
   rw [e1,e2];exact cCq (by omega) (by omega) (by omega) (by omega) (by omega)
end
section
variable {r0:Bool}{a n x y c0 c1 c2 hi lo Ac:Int}{done:Lqq}{l pts:List Int}{i i' Ar base:Nat}
namespace CU
noncomputable abbrev eV:Code:=sub (cd Tryz.f163) [1,0,1,0,0]
noncomputable abbrev nP:Code:=sub (cd Tryz.f171) [1,0,1,0,0]
theorem bIn(h0:lo≤n)(Ak:r0=(decide (n≤hi))):FV Tp 108 [(pI n),(pI lo),(pI hi)] base (pB r0) []:=by
 subst Ak;exact FV.fi func108 [bT,bT,bT,bT] (Bf (uD h0) gn)
theorem bIo(h0:n<lo):FV Tp 108 [(pI n),(pI lo),(pI hi)] base (pB false) []:=FV.fi func108 [bF,bF,bF,bF] (Bf (jZ h0) gn)
def within(n lo hi:Int):Bool:=decide (lo≤n) && decide (n≤hi)
theorem bA(n lo hi:Int){base:Nat}:FV Tp 108 [.p (aA n),.p (aA lo),.p (aA hi)] base (pB (within n lo hi)) []:=by
 by_cases h:lo≤n
 ·exact bIn h (by simp [within,h])
 ·have e:within n lo hi=false:=by simp [within,h]
  rw [e];exact bIo (show n<lo by omega)
def rQ(l:List Int)(i:Nat)(a:Int):St:=⟨fr 17 [(2,(pI 0)),(3,(pI a)),(6,(.p (aC l))),(7,(pI (l.length:Int))),(8,(pI (i:Int)))],[]⟩
theorem cEa{R5:Int}(hl0:aE Tp 0 (sub (cd Tryz.f119) cy) (rQ l 0 0) (.exit 0) (rQ l Ar R5)):FV Tp 119 [(.p (aC l))] base (pI R5) []:=FV.fi func119 [hl0.k 8 ⟨ax,[],[],[]⟩] (gc hl0.code gn)
theorem bIp{a':Int}(h0:(i:Int)<(l.length:Int))(h1:l[i]? = some Ac)(h2:inR (a+Ac))(h3:di i)(Ai:i'=(i+1))(Mp:a'=(a+Ac)):aB Tp 0 (sub (cd Tryz.f119) cy) (rQ l i a) .normal (rQ l i' a'):=by
 subst Ai Mp;exact aB.fi ⟨ax,[],[],[]⟩ [bT,.x (aA Ac)] (gc h3 (gc h2 (gc (atm aA h1) (gc (ixn aA h1) (g0 h0)))))
theorem bIq(h0:(l.length:Int)≤(i:Int)):aB Tp 0 (sub (cd Tryz.f119) cy) (rQ l i a) (.exit 0) (rQ l i a):=aB.fi ⟨ax,[],[],[]⟩ [bF] (gc (aQ h0) gn)
theorem aXq(l:List Int)(hl:small l.length)(hr:∀ k,inR (l.take k).sum){base:Nat}:FV Tp 119 [.p (aC l)] base (pI l.sum) []:=by
 have h:=aE.range (P:=Tp) (k:=0) (b:=sub (cd Tryz.f119) cy) (e := .exit 0) (fun i a=>rQ l i a) (fun a=>rQ l l.length a) (fun a x=>a+x) (fun i a=>a=(l.take i).sum) (by simp) l (a0:=0) (by simp)
  (fun i x acc hx hI=>by
   have hi:=aY hx;have he:(l.take (i+1)).sum=acc+x:=by
    rw [List.take_add_one,hx,hI];simp
   exact ⟨he.symm,bIp (by omega) hx (he ▸ hr (i+1)) (aM (by omega)) rfl rfl⟩)
  (fun acc _=>bIq (by omega))
 have e:l.foldl (fun a x=>a+x) 0=l.sum:=by rw [List.sum_eq_foldl]
 rw [e] at h
 exact cEa h
theorem nan_p0(Ak:r0=(x != x)):FV Tp 124 [(pI x)] base (pB r0) []:=by
 subst Ak;exact FV.fi func124 [] gn
theorem nan_ok(x:Int){base:Nat}:FV Tp 124 [.p (aA x)] base (pB false) []:=nan_p0 (by simp)
theorem cmp_p0(h0:x<y):FV Tp 62 [(pI x),(pI y)] base (pI (-1)) []:=FV.fi func62 [.c (pB false) [],.c (pB false) [],bF,bF,bT] (gc (bD h0) (gf (gf (gc (fk 0 (nan_ok y) rfl) (gc (fk 0 (nan_ok x) rfl) gn)))))
theorem cmp_p1(h0:y≤x)(h1:y<x):FV Tp 62 [(pI x),(pI y)] base (pI 1) []:=FV.fi func62 [.c (pB false) [],.c (pB false) [],bF,bF,bF,bT] (gc (bD h1) (gc (aQ h0) (gf (gf (gc (fk 0 (nan_ok y) rfl) (gc (fk 0 (nan_ok x) rfl) gn))))))
theorem cmp_p2(h0:y≤x)(h1:x≤y):FV Tp 62 [(pI x),(pI y)] base (pI 0) []:=FV.fi func62 [.c (pB false) [],.c (pB false) [],bF,bF,bF,bF] (gc (aQ h1) (gc (aQ h0) (gf (gf (gc (fk 0 (nan_ok y) rfl) (gc (fk 0 (nan_ok x) rfl) gn))))))
def cmpI(x y:Int):Int:=if x<y then -1 else if y<x then 1 else 0
theorem cmp_ok(x y:Int){base:Nat}:FV Tp 62 [.p (aA x),.p (aA y)] base (pI (cmpI x y)) []:=by
 unfold cmpI
 by_cases h1:x<y
 ·rw [if_pos h1];exact cmp_p0 h1
 ·rw [if_neg h1]
  by_cases h2:y<x
  ·rw [if_pos h2];exact cmp_p1 (by omega) h2
  ·rw [if_neg h2];exact cmp_p2 (by omega) (by omega)
theorem bWu(Ak:r0=(within n 0 1000)):FV Tp 112 [(pI n)] base (pB r0) []:=by
 subst Ak;have k1:=fk 0 (bA n 0 1000) rfl;exact FV.fi func112 [k1.o] (gc k1 gn)
theorem bWv(n:Int){base:Nat}:FV Tp 112 [.p (aA n)] base (pB (within n 0 1000)) []:=bWu rfl
theorem bWw(Ak:r0=(within n 0 60)):FV Tp 114 [(pI n)] base (pB r0) []:=by
 subst Ak;have k1:=fk 0 (bA n 0 60) rfl;exact FV.fi func114 [k1.o] (gc k1 gn)
theorem bWx(n:Int){base:Nat}:FV Tp 114 [.p (aA n)] base (pB (within n 0 60)) []:=bWw rfl
theorem cEb(Ak:r0=(within n 0 30)):FV Tp 144 [(pI n)] base (pB r0) []:=by
 subst Ak;have k1:=fk 0 (bA n 0 30) rfl;exact FV.fi func144 [k1.o] (gc k1 gn)
theorem cEc(n:Int){base:Nat}:FV Tp 144 [.p (aA n)] base (pB (within n 0 30)) []:=cEb rfl
theorem cEd(Ak:r0=(within n 0 20)):FV Tp 145 [(pI n)] base (pB r0) []:=by
 subst Ak;have k1:=fk 0 (bA n 0 20) rfl;exact FV.fi func145 [k1.o] (gc k1 gn)
theorem cEe(n:Int){base:Nat}:FV Tp 145 [.p (aA n)] base (pB (within n 0 20)) []:=cEd rfl
theorem bWy{r0:Int}(Ak:r0=(cmpI y x)):FV Tp 170 [(pI x),(pI y)] base (pI r0) []:=by
 subst Ak;exact FV.fi func170 [.c (pI (cmpI y x)) []] (gc (fk 0 (cmp_ok y x) rfl) gn)
theorem bBj(x y:Int){base:Nat}:FV Tp 170 [.p (aA x),.p (aA y)] base (pI (cmpI y x)) []:=bWy rfl
theorem aXr(Ak:r0=(!(within x 0 1000))):FMM Tp 168 [(pI x),(.ptr 0 0)] [some (.box 44 [(.fn 112 [] [])])] (pB r0) [some (.box 44 [(.fn 112 [] [])])]:=by
 subst Ak;have k1:=fk 1 (bWv x) rfl;exact FMM.fi 1 gE func168 [k1.o] (gc k1 gn)
theorem aEz(x:Int)  : FMM Tp 168 [(pI x),.ptr 0 0] [some (.box 44 [(.fn 112 [] [])])] (pB (!(within x 0 1000))) [some (.box 44 [(.fn 112 [] [])])]:=aXr rfl
def dC(l:List Int)(i:Nat):St:=⟨fr 19 [(0,(.p (aC l))),(1,(.fn 168 [] [(.ptr 0 0)])),(7,(pI (l.length:Int))),(8,(pI (i:Int)))],[some (.box 44 [(.fn 112 [] [])])]⟩
theorem aXs(hl0:aE Tp 1 eV (dC l 0) (.exit 0) (dC l Ar)):FMM Tp 163 [(.p (aC l)),(.fn 168 [] [(.ptr 0 0)])] [some (.box 44 [(.fn 112 [] [])])] (pI (-1)) [some (.box 44 [(.fn 112 [] [])])]:=FMM.fi 1 gE func163 [hl0.k 6 (gZ dg)] (gc hl0.code gn)
theorem aXt(hl0:aE Tp 1 eV (dC l 0) .ret (bZ (dC l Ar) [(4,(pI (Ar:Int)))])):FMM Tp 163 [(.p (aC l)),(.fn 168 [] [(.ptr 0 0)])] [some (.box 44 [(.fn 112 [] [])])] (pI (Ar:Int)) [some (.box 44 [(.fn 112 [] [])])]:=FMM.fi 1 gE func163 [hl0.k 6 (gZ dg)] (gc hl0.code gn)
section
variable(h0:(i:Int)<(l.length:Int))(h1:l[i]? = some Ac)
include h0 h1
theorem aGg(h2:(within Ac 0 1000)=false):aB Tp 1 eV (dC l i) .ret (bZ (dC l i) [(4,(pI (i:Int)))]):=have k1:=mq [0] 1 (aEz Ac);aB.fi (gZ cx) [bT,.x (aA Ac),k1.o,bT] (gc (cA h2) (gc k1 (gc (atm aA h1) (gc (ixn aA h1) (g0 h0)))))
theorem aGh(h2:(within Ac 0 1000)=true)(h3:di i)(Ai:i'=(i+1)):aB Tp 1 eV (dC l i) .normal (dC l i'):=by
 subst Ai;have k1:=mq [0] 1 (aEz Ac);exact aB.fi (gZ dg) [bT,.x (aA Ac),k1.o,bF] (gc h3 (gc (aH h2) (gc k1 (gc (atm aA h1) (gc (ixn aA h1) (g0 h0))))))
end
theorem aGi(h0:(l.length:Int)≤(i:Int)):aB Tp 1 eV (dC l i) (.exit 0) (dC l i):=aB.fi (gZ dg) [bF] (gc (aQ h0) gn)
theorem aXu(l:List Int)(hl:small l.length):FMM Tp 163 [.p (aC l),(.fn 168 [] [(.ptr 0 0)])] [some (.box 44 [(.fn 112 [] [])])] (pI (fC (fun x => !(within x 0 1000)) l)) [some (.box 44 [(.fn 112 [] [])])]:=by
 rcases aE.find (P:=Tp) (k:=1) (b:=sub (cd Tryz.f163) db) (fun i=>dC l i) (fun i _=>bZ (dC l i) [(4,.p (aA (i:Int)))]) (dC l l.length) .ret (.exit 0) (by simp) (by simp) (fun x => !(within x 0 1000)) l
  (fun i x hx hp=>aGh (by have:=aY hx;omega) hx (by simpa using hp) (aM (by have:=aY hx;omega)) rfl)
  (fun i x hx hp=>aGg (by have:=aY hx;omega) hx (by simpa using hp))
  (aGi (l:=l) (i:=l.length) (by omega)) with ⟨i,x,h1,h2,h3,h4⟩ | ⟨h1,h2,h3⟩
 ·rw [dR h2];exact aXt h4
 ·rw [dV h1];exact aXs h3
theorem aXv(h0:small l.length)(Ak:r0=(decide ((fC (fun x => !(within x 0 1000)) l) ≥ 0))):FMM Tp 93 [(.p (aC l)),(.fn 168 [] [(.ptr 0 0)])] [some (.box 44 [(.fn 112 [] [])])] (pB r0) [some (.box 44 [(.fn 112 [] [])])]:=by
 subst Ak;have k1:=mq [0] 1 (aXu l h0);exact FMM.fi 1 gE func93 [k1.o] (gc k1 gn)
theorem aXw(l:List Int)(hl:small l.length):FMM Tp 93 [.p (aC l),(.fn 168 [] [(.ptr 0 0)])] [some (.box 44 [(.fn 112 [] [])])] (pB (l.any fun x => !(within x 0 1000))) [some (.box 44 [(.fn 112 [] [])])]:=aXv hl (fD _ _).symm
theorem bIr(h0:small l.length)(Ak:r0=(!(l.any fun x => !(within x 0 1000)))):FV Tp 111 [(.p (aC l)),(.fn 112 [] [])] base (pB r0) []:=by
 subst Ak;have k1:=mq [0] 1 (aXw l h0);exact FV.fi func111 [k1.o] (gc k1 gn)
theorem oN(l:List Int)(hl:small l.length){base:Nat}:FV Tp 111 [.p (aC l),(.fn 112 [] [])] base (pB (l.all fun x=>within x 0 1000)) []:=bIr hl (by rw [List.all_eq_not_any_not])
theorem aXx(Ak:r0=(!(within x 0 60))):FMM Tp 168 [(pI x),(.ptr 0 0)] [some (.box 44 [(.fn 114 [] [])])] (pB r0) [some (.box 44 [(.fn 114 [] [])])]:=by
 subst Ak;have k1:=fk 1 (bWx x) rfl;exact FMM.fi 1 gE func168 [k1.o] (gc k1 gn)
theorem aFa(x:Int)  : FMM Tp 168 [(pI x),.ptr 0 0] [some (.box 44 [(.fn 114 [] [])])] (pB (!(within x 0 60))) [some (.box 44 [(.fn 114 [] [])])]:=aXx rfl
def dD(l:List Int)(i:Nat):St:=⟨fr 19 [(0,(.p (aC l))),(1,(.fn 168 [] [(.ptr 0 0)])),(7,(pI (l.length:Int))),(8,(pI (i:Int)))],[some (.box 44 [(.fn 114 [] [])])]⟩
theorem aXy(hl0:aE Tp 1 eV (dD l 0) (.exit 0) (dD l Ar)):FMM Tp 163 [(.p (aC l)),(.fn 168 [] [(.ptr 0 0)])] [some (.box 44 [(.fn 114 [] [])])] (pI (-1)) [some (.box 44 [(.fn 114 [] [])])]:=FMM.fi 1 gE func163 [hl0.k 6 (gZ dg)] (gc hl0.code gn)
theorem aXz(hl0:aE Tp 1 eV (dD l 0) .ret (bZ (dD l Ar) [(4,(pI (Ar:Int)))])):FMM Tp 163 [(.p (aC l)),(.fn 168 [] [(.ptr 0 0)])] [some (.box 44 [(.fn 114 [] [])])] (pI (Ar:Int)) [some (.box 44 [(.fn 114 [] [])])]:=FMM.fi 1 gE func163 [hl0.k 6 (gZ dg)] (gc hl0.code gn)
section
variable(h0:(i:Int)<(l.length:Int))(h1:l[i]? = some Ac)
include h0 h1
theorem aGj(h2:(within Ac 0 60)=false):aB Tp 1 eV (dD l i) .ret (bZ (dD l i) [(4,(pI (i:Int)))]):=have k1:=mq [0] 1 (aFa Ac);aB.fi (gZ cx) [bT,.x (aA Ac),k1.o,bT] (gc (cA h2) (gc k1 (gc (atm aA h1) (gc (ixn aA h1) (g0 h0)))))
theorem aGk(h2:(within Ac 0 60)=true)(h3:di i)(Ai:i'=(i+1)):aB Tp 1 eV (dD l i) .normal (dD l i'):=by
 subst Ai;have k1:=mq [0] 1 (aFa Ac);exact aB.fi (gZ dg) [bT,.x (aA Ac),k1.o,bF] (gc h3 (gc (aH h2) (gc k1 (gc (atm aA h1) (gc (ixn aA h1) (g0 h0))))))
end
theorem aGl(h0:(l.length:Int)≤(i:Int)):aB Tp 1 eV (dD l i) (.exit 0) (dD l i):=aB.fi (gZ dg) [bF] (gc (aQ h0) gn)
theorem aYa(l:List Int)(hl:small l.length):FMM Tp 163 [.p (aC l),(.fn 168 [] [(.ptr 0 0)])] [some (.box 44 [(.fn 114 [] [])])] (pI (fC (fun x => !(within x 0 60)) l)) [some (.box 44 [(.fn 114 [] [])])]:=by
 rcases aE.find (P:=Tp) (k:=1) (b:=sub (cd Tryz.f163) db) (fun i=>dD l i) (fun i _=>bZ (dD l i) [(4,.p (aA (i:Int)))]) (dD l l.length) .ret (.exit 0) (by simp) (by simp) (fun x => !(within x 0 60)) l
  (fun i x hx hp=>aGk (by have:=aY hx;omega) hx (by simpa using hp) (aM (by have:=aY hx;omega)) rfl)
  (fun i x hx hp=>aGj (by have:=aY hx;omega) hx (by simpa using hp))
  (aGl (l:=l) (i:=l.length) (by omega)) with ⟨i,x,h1,h2,h3,h4⟩ | ⟨h1,h2,h3⟩
 ·rw [dR h2];exact aXz h4
 ·rw [dV h1];exact aXy h3
theorem aYb(h0:small l.length)(Ak:r0=(decide ((fC (fun x => !(within x 0 60)) l) ≥ 0))):FMM Tp 93 [(.p (aC l)),(.fn 168 [] [(.ptr 0 0)])] [some (.box 44 [(.fn 114 [] [])])] (pB r0) [some (.box 44 [(.fn 114 [] [])])]:=by
 subst Ak;have k1:=mq [0] 1 (aYa l h0);exact FMM.fi 1 gE func93 [k1.o] (gc k1 gn)
theorem aYc(l:List Int)(hl:small l.length):FMM Tp 93 [.p (aC l),(.fn 168 [] [(.ptr 0 0)])] [some (.box 44 [(.fn 114 [] [])])] (pB (l.any fun x => !(within x 0 60))) [some (.box 44 [(.fn 114 [] [])])]:=aYb hl (fD _ _).symm
theorem bIs(h0:small l.length)(Ak:r0=(!(l.any fun x => !(within x 0 60)))):FV Tp 111 [(.p (aC l)),(.fn 114 [] [])] base (pB r0) []:=by
 subst Ak;have k1:=mq [0] 1 (aYc l h0);exact FV.fi func111 [k1.o] (gc k1 gn)
theorem bIt(l:List Int)(hl:small l.length){base:Nat}:FV Tp 111 [.p (aC l),(.fn 114 [] [])] base (pB (l.all fun x=>within x 0 60)) []:=bIs hl (by rw [List.all_eq_not_any_not])
theorem bIu(Ak:r0=(!(within x 0 30))):FMM Tp 168 [(pI x),(.ptr 0 0)] [some (.box 44 [(.fn 144 [] [])])] (pB r0) [some (.box 44 [(.fn 144 [] [])])]:=by
 subst Ak;have k1:=fk 1 (cEc x) rfl;exact FMM.fi 1 gE func168 [k1.o] (gc k1 gn)
theorem aJa(x:Int)  : FMM Tp 168 [(pI x),.ptr 0 0] [some (.box 44 [(.fn 144 [] [])])] (pB (!(within x 0 30))) [some (.box 44 [(.fn 144 [] [])])]:=bIu rfl
def dW(l:List Int)(i:Nat):St:=⟨fr 19 [(0,(.p (aC l))),(1,(.fn 168 [] [(.ptr 0 0)])),(7,(pI (l.length:Int))),(8,(pI (i:Int)))],[some (.box 44 [(.fn 144 [] [])])]⟩
theorem bIv(hl0:aE Tp 1 eV (dW l 0) (.exit 0) (dW l Ar)):FMM Tp 163 [(.p (aC l)),(.fn 168 [] [(.ptr 0 0)])] [some (.box 44 [(.fn 144 [] [])])] (pI (-1)) [some (.box 44 [(.fn 144 [] [])])]:=FMM.fi 1 gE func163 [hl0.k 6 (gZ dg)] (gc hl0.code gn)
theorem bIw(hl0:aE Tp 1 eV (dW l 0) .ret (bZ (dW l Ar) [(4,(pI (Ar:Int)))])):FMM Tp 163 [(.p (aC l)),(.fn 168 [] [(.ptr 0 0)])] [some (.box 44 [(.fn 144 [] [])])] (pI (Ar:Int)) [some (.box 44 [(.fn 144 [] [])])]:=FMM.fi 1 gE func163 [hl0.k 6 (gZ dg)] (gc hl0.code gn)
section
variable(h0:(i:Int)<(l.length:Int))(h1:l[i]? = some Ac)
include h0 h1
theorem aMk(h2:(within Ac 0 30)=false):aB Tp 1 eV (dW l i) .ret (bZ (dW l i) [(4,(pI (i:Int)))]):=have k1:=mq [0] 1 (aJa Ac);aB.fi (gZ cx) [bT,.x (aA Ac),k1.o,bT] (gc (cA h2) (gc k1 (gc (atm aA h1) (gc (ixn aA h1) (g0 h0)))))
theorem aMl(h2:(within Ac 0 30)=true)(h3:di i)(Ai:i'=(i+1)):aB Tp 1 eV (dW l i) .normal (dW l i'):=by
 subst Ai;have k1:=mq [0] 1 (aJa Ac);exact aB.fi (gZ dg) [bT,.x (aA Ac),k1.o,bF] (gc h3 (gc (aH h2) (gc k1 (gc (atm aA h1) (gc (ixn aA h1) (g0 h0))))))
end
theorem aMm(h0:(l.length:Int)≤(i:Int)):aB Tp 1 eV (dW l i) (.exit 0) (dW l i):=aB.fi (gZ dg) [bF] (gc (aQ h0) gn)
theorem bIx(l:List Int)(hl:small l.length):FMM Tp 163 [.p (aC l),(.fn 168 [] [(.ptr 0 0)])] [some (.box 44 [(.fn 144 [] [])])] (pI (fC (fun x => !(within x 0 30)) l)) [some (.box 44 [(.fn 144 [] [])])]:=by
 rcases aE.find (P:=Tp) (k:=1) (b:=sub (cd Tryz.f163) db) (fun i=>dW l i) (fun i _=>bZ (dW l i) [(4,.p (aA (i:Int)))]) (dW l l.length) .ret (.exit 0) (by simp) (by simp) (fun x => !(within x 0 30)) l
  (fun i x hx hp=>aMl (by have:=aY hx;omega) hx (by simpa using hp) (aM (by have:=aY hx;omega)) rfl)
  (fun i x hx hp=>aMk (by have:=aY hx;omega) hx (by simpa using hp))
  (aMm (l:=l) (i:=l.length) (by omega)) with ⟨i,x,h1,h2,h3,h4⟩ | ⟨h1,h2,h3⟩
 ·rw [dR h2];exact bIw h4
 ·rw [dV h1];exact bIv h3
theorem bIy(h0:small l.length)(Ak:r0=(decide ((fC (fun x => !(within x 0 30)) l) ≥ 0))):FMM Tp 93 [(.p (aC l)),(.fn 168 [] [(.ptr 0 0)])] [some (.box 44 [(.fn 144 [] [])])] (pB r0) [some (.box 44 [(.fn 144 [] [])])]:=by
 subst Ak;have k1:=mq [0] 1 (bIx l h0);exact FMM.fi 1 gE func93 [k1.o] (gc k1 gn)
theorem bIz(l:List Int)(hl:small l.length):FMM Tp 93 [.p (aC l),(.fn 168 [] [(.ptr 0 0)])] [some (.box 44 [(.fn 144 [] [])])] (pB (l.any fun x => !(within x 0 30))) [some (.box 44 [(.fn 144 [] [])])]:=bIy hl (fD _ _).symm
theorem bQg(h0:small l.length)(Ak:r0=(!(l.any fun x => !(within x 0 30)))):FV Tp 111 [(.p (aC l)),(.fn 144 [] [])] base (pB r0) []:=by
 subst Ak;have k1:=mq [0] 1 (bIz l h0);exact FV.fi func111 [k1.o] (gc k1 gn)
theorem bQh(l:List Int)(hl:small l.length){base:Nat}:FV Tp 111 [.p (aC l),(.fn 144 [] [])] base (pB (l.all fun x=>within x 0 30)) []:=bQg hl (by rw [List.all_eq_not_any_not])
theorem bJa(Ak:r0=(!(within x 0 20))):FMM Tp 168 [(pI x),(.ptr 0 0)] [some (.box 44 [(.fn 145 [] [])])] (pB r0) [some (.box 44 [(.fn 145 [] [])])]:=by
 subst Ak;have k1:=fk 1 (cEe x) rfl;exact FMM.fi 1 gE func168 [k1.o] (gc k1 gn)
theorem aJb(x:Int)  : FMM Tp 168 [(pI x),.ptr 0 0] [some (.box 44 [(.fn 145 [] [])])] (pB (!(within x 0 20))) [some (.box 44 [(.fn 145 [] [])])]:=bJa rfl
def dX(l:List Int)(i:Nat):St:=⟨fr 19 [(0,(.p (aC l))),(1,(.fn 168 [] [(.ptr 0 0)])),(7,(pI (l.length:Int))),(8,(pI (i:Int)))],[some (.box 44 [(.fn 145 [] [])])]⟩
theorem bJb(hl0:aE Tp 1 eV (dX l 0) (.exit 0) (dX l Ar)):FMM Tp 163 [(.p (aC l)),(.fn 168 [] [(.ptr 0 0)])] [some (.box 44 [(.fn 145 [] [])])] (pI (-1)) [some (.box 44 [(.fn 145 [] [])])]:=FMM.fi 1 gE func163 [hl0.k 6 (gZ dg)] (gc hl0.code gn)
theorem bJc(hl0:aE Tp 1 eV (dX l 0) .ret (bZ (dX l Ar) [(4,(pI (Ar:Int)))])):FMM Tp 163 [(.p (aC l)),(.fn 168 [] [(.ptr 0 0)])] [some (.box 44 [(.fn 145 [] [])])] (pI (Ar:Int)) [some (.box 44 [(.fn 145 [] [])])]:=FMM.fi 1 gE func163 [hl0.k 6 (gZ dg)] (gc hl0.code gn)
section
variable(h0:(i:Int)<(l.length:Int))(h1:l[i]? = some Ac)
include h0 h1
theorem aMn(h2:(within Ac 0 20)=false):aB Tp 1 eV (dX l i) .ret (bZ (dX l i) [(4,(pI (i:Int)))]):=have k1:=mq [0] 1 (aJb Ac);aB.fi (gZ cx) [bT,.x (aA Ac),k1.o,bT] (gc (cA h2) (gc k1 (gc (atm aA h1) (gc (ixn aA h1) (g0 h0)))))
theorem aMo(h2:(within Ac 0 20)=true)(h3:di i)(Ai:i'=(i+1)):aB Tp 1 eV (dX l i) .normal (dX l i'):=by
 subst Ai;have k1:=mq [0] 1 (aJb Ac);exact aB.fi (gZ dg) [bT,.x (aA Ac),k1.o,bF] (gc h3 (gc (aH h2) (gc k1 (gc (atm aA h1) (gc (ixn aA h1) (g0 h0))))))
end
theorem aMp(h0:(l.length:Int)≤(i:Int)):aB Tp 1 eV (dX l i) (.exit 0) (dX l i):=aB.fi (gZ dg) [bF] (gc (aQ h0) gn)
theorem bJd(l:List Int)(hl:small l.length):FMM Tp 163 [.p (aC l),(.fn 168 [] [(.ptr 0 0)])] [some (.box 44 [(.fn 145 [] [])])] (pI (fC (fun x => !(within x 0 20)) l)) [some (.box 44 [(.fn 145 [] [])])]:=by
 rcases aE.find (P:=Tp) (k:=1) (b:=sub (cd Tryz.f163) db) (fun i=>dX l i) (fun i _=>bZ (dX l i) [(4,.p (aA (i:Int)))]) (dX l l.length) .ret (.exit 0) (by simp) (by simp) (fun x => !(within x 0 20)) l
  (fun i x hx hp=>aMo (by have:=aY hx;omega) hx (by simpa using hp) (aM (by have:=aY hx;omega)) rfl)
  (fun i x hx hp=>aMn (by have:=aY hx;omega) hx (by simpa using hp))
  (aMp (l:=l) (i:=l.length) (by omega)) with ⟨i,x,h1,h2,h3,h4⟩ | ⟨h1,h2,h3⟩
 ·rw [dR h2];exact bJc h4
 ·rw [dV h1];exact bJb h3
theorem bJe(h0:small l.length)(Ak:r0=(decide ((fC (fun x => !(within x 0 20)) l) ≥ 0))):FMM Tp 93 [(.p (aC l)),(.fn 168 [] [(.ptr 0 0)])] [some (.box 44 [(.fn 145 [] [])])] (pB r0) [some (.box 44 [(.fn 145 [] [])])]:=by
 subst Ak;have k1:=mq [0] 1 (bJd l h0);exact FMM.fi 1 gE func93 [k1.o] (gc k1 gn)
theorem bJf(l:List Int)(hl:small l.length):FMM Tp 93 [.p (aC l),(.fn 168 [] [(.ptr 0 0)])] [some (.box 44 [(.fn 145 [] [])])] (pB (l.any fun x => !(within x 0 20))) [some (.box 44 [(.fn 145 [] [])])]:=bJe hl (fD _ _).symm
theorem bQi(h0:small l.length)(Ak:r0=(!(l.any fun x => !(within x 0 20)))):FV Tp 111 [(.p (aC l)),(.fn 145 [] [])] base (pB r0) []:=by
 subst Ak;have k1:=mq [0] 1 (bJf l h0);exact FV.fi func111 [k1.o] (gc k1 gn)
theorem bQj(l:List Int)(hl:small l.length){base:Nat}:FV Tp 111 [.p (aC l),(.fn 145 [] [])] base (pB (l.all fun x=>within x 0 20)) []:=bQi hl (by rw [List.all_eq_not_any_not])
theorem bWz{x:List Int}(Ak:r0=((x.length:Int) == c0)):FMM Tp 110 [(.p (aC x)),(.ptr 0 0)] [some (.box 34 [(pI c0),(pI c1),(pI c2),(.p (aC pts)),(.p (aR done))])] (pB r0) [some (.box 34 [(pI c0),(pI c1),(pI c2),(.p (aC pts)),(.p (aR done))])]:=by
 subst Ak;exact FMM.fi 1 gE func110 [] gn
theorem bXa(x:List Int)(c0 c1 c2:Int)(pts:List Int)(done:Lqq):FMM Tp 110 [.p (aC x),.ptr 0 0] [some (.box 34 [(pI c0),(pI c1),(pI c2),(.p (aC pts)),(.p (aR done))])] (pB ((x.length:Int) == c0)) [some (.box 34 [(pI c0),(pI c1),(pI c2),(.p (aC pts)),(.p (aR done))])]:=bWz rfl
theorem bXb{x:List Int}(h0:small x.length)(Ak:r0=(x.all fun x=>within x 0 60)):FV Tp 113 [(.p (aC x))] base (pB r0) []:=by
 subst Ak;have k1:=fk 0 (bIt x h0) rfl;exact FV.fi func113 [k1.o] (gc k1 gn)
theorem bXc(x:List Int)(hs:small x.length){base:Nat}:FV Tp 113 [.p (aC x)] base (pB (x.all fun y=>within y 0 60)) []:=bXb hs rfl
theorem aYd{x:List Int}(Ak:r0=(!((x.length:Int) == c0))):FMM Tp 167 [(.p (aC x)),(.ptr 0 0)] [some (.box 189 [(.fn 110 [] [(.ptr 1 0)])]),some (.box 34 [(pI c0),(pI c1),(pI c2),(.p (aC pts)),(.p (aR done))])] (pB r0) [some (.box 189 [(.fn 110 [] [(.ptr 1 0)])]),some (.box 34 [(pI c0),(pI c1),(pI c2),(.p (aC pts)),(.p (aR done))])]:=by
 subst Ak;have k1:=mq [1] 2 (bXa x c0 c1 c2 pts done);exact FMM.fi 2 gE func167 [k1.o] (gc k1 gn)
theorem aFb(x:List Int)(c0 c1 c2:Int)(pts:List Int)(done:Lqq):FMM Tp 167 [(.p (aC x)),.ptr 0 0] [some (.box 189 [(.fn 110 [] [(.ptr 1 0)])]),some (.box 34 [(pI c0),(pI c1),(pI c2),(.p (aC pts)),(.p (aR done))])] (pB (!((x.length:Int) == c0))) [some (.box 189 [(.fn 110 [] [(.ptr 1 0)])]),some (.box 34 [(pI c0),(pI c1),(pI c2),(.p (aC pts)),(.p (aR done))])]:=aYd rfl
def dE(l:Lqq)(c0 c1 c2:Int)(pts:List Int)(done:Lqq)(i:Nat):St:=⟨fr 19 [(0,(.p (aR l))),(1,(.fn 167 [] [(.ptr 0 0)])),(7,(pI (l.length:Int))),(8,(pI (i:Int)))],[some (.box 189 [(.fn 110 [] [(.ptr 1 0)])]),some (.box 34 [(pI c0),(pI c1),(pI c2),(.p (aC pts)),(.p (aR done))])]⟩
theorem aYe{l:Lqq}(hl0:aE Tp 2 nP (dE l c0 c1 c2 pts done 0) (.exit 0) (dE l c0 c1 c2 pts done Ar)):FMM Tp 171 [(.p (aR l)),(.fn 167 [] [(.ptr 0 0)])] [some (.box 189 [(.fn 110 [] [(.ptr 1 0)])]),some (.box 34 [(pI c0),(pI c1),(pI c2),(.p (aC pts)),(.p (aR done))])] (pI (-1)) [some (.box 189 [(.fn 110 [] [(.ptr 1 0)])]),some (.box 34 [(pI c0),(pI c1),(pI c2),(.p (aC pts)),(.p (aR done))])]:=FMM.fi 2 gE func171 [hl0.k 6 (gZ dg)] (gc hl0.code gn)
theorem aYf{l:Lqq}(hl0:aE Tp 2 nP (dE l c0 c1 c2 pts done 0) .ret (bZ (dE l c0 c1 c2 pts done Ar) [(4,(pI (Ar:Int)))])):FMM Tp 171 [(.p (aR l)),(.fn 167 [] [(.ptr 0 0)])] [some (.box 189 [(.fn 110 [] [(.ptr 1 0)])]),some (.box 34 [(pI c0),(pI c1),(pI c2),(.p (aC pts)),(.p (aR done))])] (pI (Ar:Int)) [some (.box 189 [(.fn 110 [] [(.ptr 1 0)])]),some (.box 34 [(pI c0),(pI c1),(pI c2),(.p (aC pts)),(.p (aR done))])]:=FMM.fi 2 gE func171 [hl0.k 6 (gZ dg)] (gc hl0.code gn)
section
variable{l:Lqq}{Ac:List Int}(h0:(i:Int)<(l.length:Int))(h1:l[i]? = some Ac)
include h0 h1
theorem aGm(h2:((Ac.length:Int) == c0)=false):aB Tp 2 nP (dE l c0 c1 c2 pts done i) .ret (bZ (dE l c0 c1 c2 pts done i) [(4,(pI (i:Int)))]):=have k1:=mq [0,1] 2 (aFb Ac c0 c1 c2 pts done);aB.fi (gZ cx) [bT,.x (aC Ac),k1.o,bT] (gc (cA h2) (gc k1 (gc (atm aC h1) (gc (ixn aC h1) (g0 h0)))))
theorem aGn(h2:((Ac.length:Int) == c0)=true)(h3:di i)(Ai:i'=(i+1)):aB Tp 2 nP (dE l c0 c1 c2 pts done i) .normal (dE l c0 c1 c2 pts done i'):=by
 subst Ai;have k1:=mq [0,1] 2 (aFb Ac c0 c1 c2 pts done);exact aB.fi (gZ dg) [bT,.x (aC Ac),k1.o,bF] (gc h3 (gc (aH h2) (gc k1 (gc (atm aC h1) (gc (ixn aC h1) (g0 h0))))))
end
theorem aGo{l:Lqq}(h0:(l.length:Int)≤(i:Int)):aB Tp 2 nP (dE l c0 c1 c2 pts done i) (.exit 0) (dE l c0 c1 c2 pts done i):=aB.fi (gZ dg) [bF] (gc (aQ h0) gn)
theorem aYg(l:Lqq)(c0 c1 c2:Int)(pts:List Int)(done:Lqq)(hl:small l.length):FMM Tp 171 [.p (aR l),(.fn 167 [] [(.ptr 0 0)])] [some (.box 189 [(.fn 110 [] [(.ptr 1 0)])]),some (.box 34 [(pI c0),(pI c1),(pI c2),(.p (aC pts)),(.p (aR done))])] (pI (fC (fun x => !((x.length:Int) == c0)) l)) [some (.box 189 [(.fn 110 [] [(.ptr 1 0)])]),some (.box 34 [(pI c0),(pI c1),(pI c2),(.p (aC pts)),(.p (aR done))])]:=by
 rcases aE.find (P:=Tp) (k:=2) (b:=sub (cd Tryz.f171) db) (fun i=>dE l c0 c1 c2 pts done i) (fun i _=>bZ (dE l c0 c1 c2 pts done i) [(4,.p (aA (i:Int)))]) (dE l c0 c1 c2 pts done l.length) .ret (.exit 0) (by simp) (by simp) (fun x => !((x.length:Int) == c0)) l
  (fun i x hx hp=>aGn (by have:=aY hx;omega) hx (by simpa using hp) (aM (by have:=aY hx;omega)) rfl)
  (fun i x hx hp=>aGm (by have:=aY hx;omega) hx (by simpa using hp))
  (aGo (l:=l) (i:=l.length) (by omega)) with ⟨i,x,h1,h2,h3,h4⟩ | ⟨h1,h2,h3⟩
 ·rw [dR h2];exact aYf h4
 ·rw [dV h1];exact aYe h3
theorem aYh{l:Lqq}(h0:small l.length)(Ak:r0=(decide ((fC (fun x => !((x.length:Int) == c0)) l) ≥ 0))):FMM Tp 116 [(.p (aR l)),(.fn 167 [] [(.ptr 0 0)])] [some (.box 189 [(.fn 110 [] [(.ptr 1 0)])]),some (.box 34 [(pI c0),(pI c1),(pI c2),(.p (aC pts)),(.p (aR done))])] (pB r0) [some (.box 189 [(.fn 110 [] [(.ptr 1 0)])]),some (.box 34 [(pI c0),(pI c1),(pI c2),(.p (aC pts)),(.p (aR done))])]:=by
 subst Ak;have k1:=mq [0,1] 2 (aYg l c0 c1 c2 pts done h0);exact FMM.fi 2 gE func116 [k1.o] (gc k1 gn)
theorem aYi(l:Lqq)(c0 c1 c2:Int)(pts:List Int)(done:Lqq)(hl:small l.length):FMM Tp 116 [.p (aR l),(.fn 167 [] [(.ptr 0 0)])] [some (.box 189 [(.fn 110 [] [(.ptr 1 0)])]),some (.box 34 [(pI c0),(pI c1),(pI c2),(.p (aC pts)),(.p (aR done))])] (pB (l.any fun x => !((x.length:Int) == c0))) [some (.box 189 [(.fn 110 [] [(.ptr 1 0)])]),some (.box 34 [(pI c0),(pI c1),(pI c2),(.p (aC pts)),(.p (aR done))])]:=aYh hl (fD _ _).symm
theorem bJg{l:Lqq}(h0:small l.length)(Ak:r0=(!(l.any fun x => !((x.length:Int) == c0)))):FMM Tp 109 [(.p (aR l)),(.fn 110 [] [(.ptr 0 0)])] [some (.box 34 [(pI c0),(pI c1),(pI c2),(.p (aC pts)),(.p (aR done))])] (pB r0) [some (.box 34 [(pI c0),(pI c1),(pI c2),(.p (aC pts)),(.p (aR done))])]:=by
 subst Ak;have k1:=mq [1,0] 2 (aYi l c0 c1 c2 pts done h0);exact FMM.fi 1 gE func109 [k1.o] (gc k1 gn)
theorem lX(l:Lqq)(c0 c1 c2:Int)(pts:List Int)(done:Lqq)(hl:small l.length):FMM Tp 109 [.p (aR l),(.fn 110 [] [(.ptr 0 0)])] [some (.box 34 [(pI c0),(pI c1),(pI c2),(.p (aC pts)),(.p (aR done))])] (pB (l.all fun x=>(x.length:Int) == c0)) [some (.box 34 [(pI c0),(pI c1),(pI c2),(.p (aC pts)),(.p (aR done))])]:=bJg hl (by rw [List.all_eq_not_any_not])
theorem aYj{x:List Int}(h0:small x.length)(Ak:r0=(!(x.all fun y=>within y 0 60))):FMM Tp 167 [(.p (aC x)),(.ptr 0 0)] [some (.box 189 [(.fn 113 [] [])])] (pB r0) [some (.box 189 [(.fn 113 [] [])])]:=by
 subst Ak;have k1:=fk 1 (bXc x h0) rfl;exact FMM.fi 1 gE func167 [k1.o] (gc k1 gn)
theorem aFc(x:List Int)(he:small x.length):FMM Tp 167 [(.p (aC x)),.ptr 0 0] [some (.box 189 [(.fn 113 [] [])])] (pB (!(x.all fun y=>within y 0 60))) [some (.box 189 [(.fn 113 [] [])])]:=aYj he rfl
def dF(l:Lqq)(i:Nat):St:=⟨fr 19 [(0,(.p (aR l))),(1,(.fn 167 [] [(.ptr 0 0)])),(7,(pI (l.length:Int))),(8,(pI (i:Int)))],[some (.box 189 [(.fn 113 [] [])])]⟩
theorem aYk{l:Lqq}(hl0:aE Tp 1 nP (dF l 0) (.exit 0) (dF l Ar)):FMM Tp 171 [(.p (aR l)),(.fn 167 [] [(.ptr 0 0)])] [some (.box 189 [(.fn 113 [] [])])] (pI (-1)) [some (.box 189 [(.fn 113 [] [])])]:=FMM.fi 1 gE func171 [hl0.k 6 (gZ dg)] (gc hl0.code gn)
theorem aYl{l:Lqq}(hl0:aE Tp 1 nP (dF l 0) .ret (bZ (dF l Ar) [(4,(pI (Ar:Int)))])):FMM Tp 171 [(.p (aR l)),(.fn 167 [] [(.ptr 0 0)])] [some (.box 189 [(.fn 113 [] [])])] (pI (Ar:Int)) [some (.box 189 [(.fn 113 [] [])])]:=FMM.fi 1 gE func171 [hl0.k 6 (gZ dg)] (gc hl0.code gn)
section
variable{l:Lqq}{Ac:List Int}(h0:(i:Int)<(l.length:Int))(h1:l[i]? = some Ac)(h2:small Ac.length)
include h0 h1 h2
theorem aGp(h3:(Ac.all fun y=>within y 0 60)=false):aB Tp 1 nP (dF l i) .ret (bZ (dF l i) [(4,(pI (i:Int)))]):=have k1:=mq [0] 1 (aFc Ac h2);aB.fi (gZ cx) [bT,.x (aC Ac),k1.o,bT] (gc (cA h3) (gc k1 (gc (atm aC h1) (gc (ixn aC h1) (g0 h0)))))
theorem aGq(h3:(Ac.all fun y=>within y 0 60)=true)(h4:di i)(Ai:i'=(i+1)):aB Tp 1 nP (dF l i) .normal (dF l i'):=by
 subst Ai;have k1:=mq [0] 1 (aFc Ac h2);exact aB.fi (gZ dg) [bT,.x (aC Ac),k1.o,bF] (gc h4 (gc (aH h3) (gc k1 (gc (atm aC h1) (gc (ixn aC h1) (g0 h0))))))
end
theorem aGr{l:Lqq}(h0:(l.length:Int)≤(i:Int)):aB Tp 1 nP (dF l i) (.exit 0) (dF l i):=aB.fi (gZ dg) [bF] (gc (aQ h0) gn)
theorem aYm(l:Lqq)(hl:small l.length)(he:∀ x∈l,small x.length):FMM Tp 171 [.p (aR l),(.fn 167 [] [(.ptr 0 0)])] [some (.box 189 [(.fn 113 [] [])])] (pI (fC (fun x => !(x.all fun y=>within y 0 60)) l)) [some (.box 189 [(.fn 113 [] [])])]:=by
 rcases aE.find (P:=Tp) (k:=1) (b:=sub (cd Tryz.f171) db) (fun i=>dF l i) (fun i _=>bZ (dF l i) [(4,.p (aA (i:Int)))]) (dF l l.length) .ret (.exit 0) (by simp) (by simp) (fun x => !(x.all fun y=>within y 0 60)) l
  (fun i x hx hp=>aGq (by have:=aY hx;omega) hx (he x (Br hx)) (by simpa using hp) (aM (by have:=aY hx;omega)) rfl)
  (fun i x hx hp=>aGp (by have:=aY hx;omega) hx (he x (Br hx)) (by simpa using hp))
  (aGr (l:=l) (i:=l.length) (by omega)) with ⟨i,x,h1,h2,h3,h4⟩ | ⟨h1,h2,h3⟩
 ·rw [dR h2];exact aYl h4
 ·rw [dV h1];exact aYk h3
theorem aYn{l:Lqq}(h0:small l.length)(h1:∀ x∈l,small x.length)(Ak:r0=(decide ((fC (fun x => !(x.all fun y=>within y 0 60)) l) ≥ 0))):FMM Tp 116 [(.p (aR l)),(.fn 167 [] [(.ptr 0 0)])] [some (.box 189 [(.fn 113 [] [])])] (pB r0) [some (.box 189 [(.fn 113 [] [])])]:=by
 subst Ak;have k1:=mq [0] 1 (aYm l h0 h1);exact FMM.fi 1 gE func116 [k1.o] (gc k1 gn)
theorem aYo(l:Lqq)(hl:small l.length)(he:∀ x∈l,small x.length):FMM Tp 116 [.p (aR l),(.fn 167 [] [(.ptr 0 0)])] [some (.box 189 [(.fn 113 [] [])])] (pB (l.any fun x => !(x.all fun y=>within y 0 60))) [some (.box 189 [(.fn 113 [] [])])]:=aYn hl he (fD _ _).symm
theorem bJh{l:Lqq}(h0:small l.length)(h1:∀ x∈l,small x.length)(Ak:r0=(!(l.any fun x => !(x.all fun y=>within y 0 60)))):FV Tp 109 [(.p (aR l)),(.fn 113 [] [])] base (pB r0) []:=by
 subst Ak;have k1:=mq [0] 1 (aYo l h0 h1);exact FV.fi func109 [k1.o] (gc k1 gn)
theorem sJ(l:Lqq)(hl:small l.length)(he:∀ x∈l,small x.length){base:Nat}:FV Tp 109 [.p (aR l),(.fn 113 [] [])] base (pB (l.all fun x=>x.all fun y=>within y 0 60)) []:=bJh hl he (by rw [List.all_eq_not_any_not])
end CU
end
end KV
end Go.Proofs
section
namespace Go.Proofs
namespace KC
open Go.RowKit Go.Lib Go.Sort
variable {α:Type}
abbrev leB:Int→Int→Bool:=KL.leB
def cmpI(x y:Int):Int:=if x<y then -1 else if y<x then 1 else 0

def nz(p:Int):Bool:=decide (p=0)

def placesOf(race:List Int):List Int:=(race.filter fun x => !nz x).mergeSort leB

def clashLoop:Option Int→Int→List Int→Option Int
 | _,free,[]=>some free
 | prev,free,p::r=>if prev=some p then clashLoop (some p) (free+1) r else if p<free then none else clashLoop (some p) (p+1) r

def clashR(race:List Int):Bool:=match clashLoop none 1 (placesOf race) with | none=>true | some f=>decide (61<f)

def prevOf(l:List Int)(k:Nat):Option Int:=if k=0 then none else l[k-1]?

theorem clashLoop_step(l:List Int)(k:Nat)(h:k<l.length)(free:Int) :
  clashLoop (prevOf l k) free (l.drop k)=if prevOf l k=some l[k] then clashLoop (prevOf l (k+1)) (free+1) (l.drop (k+1)) else if l[k]<free then none else clashLoop (prevOf l (k+1)) (l[k]+1) (l.drop (k+1)):=by
 have hp:prevOf l (k+1)=some l[k]:=by simp [prevOf,h]
 rw [hp,List.drop_eq_getElem_cons h];rfl

theorem placesOf_bd(race:List Int)(hr:∀ x∈race,0≤x∧x≤1000):(placesOf race).length≤race.length∧∀ i (h:i<(placesOf race).length),0≤(placesOf race)[i]∧(placesOf race)[i]≤1000:=by
 unfold placesOf;refine ⟨by rw [List.length_mergeSort];exact List.length_filter_le _ _,fun i h => ?_⟩
 have hm:=List.getElem_mem h;rw [List.mem_mergeSort,List.mem_filter] at hm
 exact hr _ hm.1

def bXd(cmp:Int→Int→Int)(l:List Int):Bool:=decide (∀ j,j<l.length-1→0≤cmp (l.getD (j+1) 0) (l.getD j 0))

theorem bBk(l:List Int)(k:Nat)(h:k<l.length):l.getD k 0=l[k]:=by
 rw [List.getD_eq_getElem?_getD,List.getElem?_eq_getElem h];rfl

def cmpDown(a b:Int):Int:=cmpI b a

def fallsB(l:List Int):Bool:=bXd cmpDown l

structure Cup where
 sk:Int
 ra:Int
 be:Int
 pts:List Int
 done:List (List Int)

structure Small (c:Cup):Prop where
 pts:c.pts.length≤1000
 done:c.done.length≤1000
 rows:∀ r∈c.done,r.length≤1000

def wiB(n lo hi:Int):Bool:=decide (lo≤n∧n≤hi)

def checkP(c:Cup):Int :=
 if !wiB c.sk 1 12 || !wiB c.ra 1 20 || !wiB c.be 1 c.ra then 3
 else if !wiB c.pts.length 1 60 || decide (c.ra<c.done.length) || !c.done.all (fun r=>((r.length:Int) == c.sk)) then 2
 else if !c.pts.all (fun n=>wiB n 0 1000) || !c.done.all (fun r=>r.all fun p=>wiB p 0 60) then 3
 else if !fallsB c.pts then 4
 else if c.done.any clashR then 7 else 0

structure Valid (c:Cup):Prop where
 sk1:1≤c.sk
 sk2:c.sk≤12
 ra1:1≤c.ra
 ra2:c.ra≤20
 be1:1≤c.be
 be2:c.be≤c.ra
 pt1:1≤c.pts.length
 pt2:c.pts.length≤60
 dn:(c.done.length:Int)≤c.ra
 len:∀ r∈c.done,(r.length:Int)=c.sk
 pts:∀ x∈c.pts,0≤x∧x≤1000
 rows:∀ r∈c.done,∀ x∈r,0≤x∧x≤60
 falls:fallsB c.pts=true
 clash:c.done.any clashR=false

theorem lR{n lo hi:Int}:wiB n lo hi=true↔lo≤n∧n≤hi:=by unfold wiB;rw [decide_eq_true_iff]

theorem valid_iff(c:Cup):checkP c=0↔Valid c:=by
 constructor
 ·intro h
  unfold checkP at h
  split at h
  ·cases h
  rename_i h1
  split at h
  ·cases h
  rename_i h2
  split at h
  ·cases h
  rename_i h3
  split at h
  ·cases h
  rename_i h4
  split at h
  ·cases h
  rename_i h5;simp only [Bool.not_eq_true,Bool.or_eq_false_iff,Bool.not_eq_false',decide_eq_false_iff_not] at h1 h2 h3 h4 h5
  obtain ⟨⟨a1,a2⟩,a3⟩:=h1;obtain ⟨⟨b1,b2⟩,b3⟩:=h2;obtain ⟨c1,c2⟩:=h3;rw [lR] at a1 a2 a3 b1
  rw [List.all_eq_true] at b3 c1 c2
  refine ⟨a1.1,a1.2,a2.1,a2.2,a3.1,a3.2,by omega,by omega,by omega,fun r hr=>by simpa using b3 r hr,fun x hx=>lR.1 (c1 x hx),fun r hr x hx => ?_,h4,h5⟩
  have:=c2 r hr;rw [List.all_eq_true] at this
  exact lR.1 (this x hx)
 ·intro v
  have a1:wiB c.sk 1 12=true:=lR.2 ⟨v.sk1,v.sk2⟩;have a2:wiB c.ra 1 20=true:=lR.2 ⟨v.ra1,v.ra2⟩;have a3:wiB c.be 1 c.ra=true:=lR.2 ⟨v.be1,v.be2⟩;have a4:wiB c.pts.length 1 60=true:=lR.2 (by have:=v.pt1;have:=v.pt2;omega)
  have a5:decide (c.ra<c.done.length)=false:=by rw [decide_eq_false_iff_not];have:=v.dn;omega
  have a6:c.done.all (fun r=>((r.length:Int) == c.sk))=true:=by rw [List.all_eq_true];intro r hr;simpa using v.len r hr
  have a7:c.pts.all (fun n=>wiB n 0 1000)=true:=by rw [List.all_eq_true];intro r hr;exact lR.2 (v.pts r hr)
  have a8:c.done.all (fun r=>r.all fun p=>wiB p 0 60)=true:=by
   rw [List.all_eq_true];intro r hr;rw [List.all_eq_true];intro x hx;exact lR.2 (v.rows r hr x hx)
  unfold checkP;rw [a1,a2,a3,a4,a5,a6,a7,a8,v.falls,v.clash];rfl

theorem Valid.small{c:Cup}(v:Valid c):Small c :=
 ⟨by have:=v.pt2;omega,by have:=v.dn;have:=v.ra2;omega,fun r hr=>by have:=v.len r hr;have:=v.sk2;omega⟩

theorem sum_bd(l:List Int)(h:∀ x∈l,0≤x∧x≤1000):0≤l.sum∧l.sum≤1000*l.length:=by
 induction l with
 | nil=>simp
 | cons x r ih =>
  have hx:=h x (by simp)
  have:=ih (fun y hy=>h y (by simp [hy]))
  simp only [List.sum_cons,List.length_cons];omega

def worthM(pts:List Int)(place many:Nat):Int:=((pts.drop (place-1)).take many).sum

theorem worthM_bd(pts:List Int)(place many:Nat)(h:∀ x∈pts,0≤x∧x≤1000):0≤worthM pts place many∧worthM pts place many≤1000*many:=by
 have:=sum_bd ((pts.drop (place-1)).take many) (fun x hx=>h x (List.mem_of_mem_drop (List.mem_of_mem_take hx)))
 have hl:((pts.drop (place-1)).take many).length≤many:=List.length_take_le _ _;unfold worthM;omega

theorem worthM_none(pts:List Int)(place many:Nat)(hp:1≤place)(h2:¬ (place:Int)≤min (pts.length:Int) ((place:Int)-1+many)):worthM pts place many=0:=by
 unfold worthM
 by_cases hm:many=0
 ·simp [hm]
 ·rw [List.drop_of_length_le (by omega)];simp

def scoreM(pts race:List Int)(s:Nat):Int :=
 if race.getD s 0=0 then 0 else worthM pts (race.getD s 0).toNat (race.count (race.getD s 0)) / (race.count (race.getD s 0):Int)

theorem count_snoc(l:List Int)(p:Int)(k:Nat)(h:k<l.length):(l.take (k+1)).count p=(l.take k).count p+if l[k]=p then 1 else 0:=by
 rw [List.take_succ_eq_append_getElem h,List.count_append,List.count_singleton];simp

def mv(A:List α)(x:α)(j:Nat)(R:List α):List α:=A.take j++x::(A.drop j++R)

theorem mv_length(A:List α)(x:α)(j:Nat)(R:List α)(hj:j≤A.length):(mv A x j R).length=A.length+1+R.length:=by
 unfold mv;simp;omega

theorem mv_get(A:List α)(x:α)(j:Nat)(R:List α)(hj:j≤A.length)(t:Nat) :
  (mv A x j R)[t]? = if t<j then A[t]? else if t=j then some x else if t≤A.length then A[t-1]? else R[t-A.length-1]? := by
 unfold mv
 by_cases h1:t<j
 ·rw [if_pos h1,List.getElem?_append_left (by simp;omega),List.getElem?_take_of_lt h1]
 ·rw [if_neg h1,List.getElem?_append_right (by simp;omega)]
  have hl:(A.take j).length=j:=by simp;omega
  rw [hl]
  by_cases h2:t=j
  ·rw [if_pos h2,show t-j=0 by omega];rfl
  ·rw [if_neg h2,show t-j=(t-j-1)+1 by omega,List.getElem?_cons_succ]
   by_cases h3:t≤A.length
   ·rw [if_pos h3,List.getElem?_append_left (by simp;omega),List.getElem?_drop]
    congr 1;omega
   ·rw [if_neg h3,List.getElem?_append_right (by simp;omega)]
    congr 1
    simp;omega

theorem mv_swap(A:List α)(x:α)(j:Nat)(R:List α)(hj:j≤A.length)(h0:0<j)(y:α)(hy:A[j-1]? = some y) :
  ((mv A x j R).set j y).set (j-1) x=mv A x (j-1) R:=by
 have hl:=mv_length A x j R hj;apply List.ext_getElem?;intro t;rw [List.getElem?_set,List.getElem?_set,mv_get A x (j-1) R (by omega),mv_get A x j R hj]
 simp only [List.length_set,hl]
 by_cases h1:j-1=t
 ·subst h1
  rw [if_pos rfl,if_pos (by omega),if_neg (by omega),if_pos rfl]
 ·rw [if_neg h1]
  by_cases h2:j=t
  ·subst h2
   rw [if_pos rfl,if_pos (by omega),if_neg (by omega),if_neg (by omega),if_pos (by omega),hy]
  ·rw [if_neg h2]
   by_cases h3:t<j
   ·rw [if_pos h3,if_pos (by omega)]
   ·rw [if_neg h3,if_neg (by omega:¬ t=j),if_neg (by omega:¬ t<j-1),if_neg (by omega:¬ t=j-1)]

def insPos(lt:α→α→Bool)(x:α)(A:List α):Nat:=(A.reverse.dropWhile (lt x)).length
def ins(lt:α→α→Bool)(A:List α)(x:α):List α:=A.take (insPos lt x A)++x::A.drop (insPos lt x A)
def isort(lt:α→α→Bool)(l:List α):List α:=l.foldl (ins lt) []

theorem dropWhile_all_append{p:α→Bool}:∀ (l r:List α),(∀ x∈l,p x=true)→(l++r).dropWhile p=r.dropWhile p
 | [],_,_=>rfl
 | x::l,r,h=>by
  rw [List.cons_append,List.dropWhile_cons,if_pos (h x (by simp))]
  exact dropWhile_all_append l r (fun y hy=>h y (by simp [hy]))

theorem insPos_eq(lt:α→α→Bool)(x:α)(A:List α)(j:Nat)(hj:j≤A.length)(h:∀ t (_:t<A.length),j≤t→lt x A[t]=true)
  (h2:j=0∨∃ y,A[j-1]? = some y∧lt x y=false):insPos lt x A=j:=by
 unfold insPos;have e:A.reverse=(A.drop j).reverse++(A.take j).reverse:=by rw [← List.reverse_append,List.take_append_drop]
 rw [e,dropWhile_all_append]
 ·rcases h2 with h0 | ⟨y,hy,hlt⟩
  ·subst h0;simp
  ·by_cases h0:j=0
   ·subst h0;simp
   ·have e2:A.take j=A.take (j-1)++[y]:=by
     rw [show j=(j-1)+1 by omega,List.take_add_one,Nat.add_sub_cancel,hy];rfl
    have hl:(A.take (j-1)).length=j-1:=by simp;omega
    rw [e2,List.reverse_append];show ((y::(A.take (j-1)).reverse).dropWhile (lt x)).length=j;rw [List.dropWhile_cons,hlt];simp;omega
 ·intro z hz
  rw [List.mem_reverse] at hz
  obtain ⟨t,ht,rfl⟩:=List.getElem_of_mem hz;rw [List.getElem_drop];exact h (j+t) (by simp at ht;omega) (by omega)

theorem ins_length(lt:α→α→Bool)(A:List α)(x:α):(ins lt A x).length=A.length+1:=by
 unfold ins;simp;have:insPos lt x A≤A.length:=by
  unfold insPos;have h2:((A.reverse).dropWhile (lt x)).length≤A.reverse.length:=(List.dropWhile_sublist _).length_le;simpa using h2
 omega

theorem mv_end(A:List α)(x:α)(R:List α):mv A x A.length R=A++x::R:=by unfold mv;simp
theorem mv_ins(lt:α→α→Bool)(A:List α)(x:α)(R:List α):mv A x (insPos lt x A) R=ins lt A x++R:=by unfold mv ins;simp

theorem isort_length(lt:α→α→Bool)(l:List α):(isort lt l).length=l.length:=by
 unfold isort;have:∀ (l A:List α),(l.foldl (ins lt) A).length=A.length+l.length:=by
  intro l
  induction l with
  | nil=>intro A;simp
  | cons x r ih=>intro A;rw [List.foldl_cons,ih,ins_length];simp;omega
 rw [this];simp

theorem isort_snoc(lt:α→α→Bool)(l:List α)(k:Nat)(h:k<l.length):isort lt (l.take (k+1))=ins lt (isort lt (l.take k)) l[k]:=by
 unfold isort;rw [List.take_succ_eq_append_getElem h,List.foldl_append];rfl
theorem isort_mem{α:Type}(lt:α→α→Bool)(l:List α)(y:α):y∈isort lt l↔y∈l:=by
 unfold isort;have : ∀ (l A:List α),y∈l.foldl (ins lt) A↔y∈A∨y∈l:=by
  intro l
  induction l with
  | nil=>intro A;simp
  | cons x r ih =>
   intro A;rw [List.foldl_cons,ih];have:y∈ins lt A x↔y∈A∨y=x:=by
    unfold ins;rw [List.mem_append,List.mem_cons];constructor
    ·rintro (h | h | h)
     ·exact Or.inl (List.mem_of_mem_take h)
     ·exact Or.inr h
     ·exact Or.inl (List.mem_of_mem_drop h)
    ·rintro (h | h)
     ·rw [← List.take_append_drop (insPos lt x A) A,List.mem_append] at h
      rcases h with h | h
      ·exact Or.inl h
      ·exact Or.inr (Or.inr h)
     ·exact Or.inr (Or.inl h)
   rw [this,List.mem_cons];constructor
   ·rintro ((h | h) | h) <;> simp [h]
   ·rintro (h | h | h) <;> simp [h]
 rw [this];simp

def ltC{α:Type}(cmp:α→α→Int)(x y:α):Bool:=decide (cmp x y<0)

def scoreAt(c:Cup)(i s:Nat):Int:=scoreM c.pts (c.done.getD i []) s

def cntCmp(c:Cup)(s:Nat)(a b:Int):Int:=cmpI (scoreAt c b.toNat s) (scoreAt c a.toNat s)

def idx(m:Nat):List Int:=(List.range m).map (fun i=>((i:Nat):Int))
theorem idx_length(m:Nat):(idx m).length=m:=by simp [idx]
theorem idx_succ(m:Nat):idx (m+1)=idx m++[(m:Int)]:=by simp [idx,List.range_succ]
theorem idx_mem{m:Nat}{x:Int}(h:x∈idx m):∃ k:Nat,x=k∧k<m:=by
 unfold idx at h
 rw [List.mem_map] at h
 obtain ⟨k,hk,rfl⟩:=h;exact ⟨k,rfl,List.mem_range.1 hk⟩

def countedL(c:Cup)(s:Nat):List Int:=((isort (ltC (cntCmp c s)) (idx c.done.length)).take (min c.done.length c.be.toNat)).mergeSort leB

def zeros61:List Int:=List.replicate 61 0
def totalM(c:Cup)(s:Nat):Int:=((countedL c s).map fun i=>scoreAt c i.toNat s).sum
def oO(c:Cup)(s k p:Nat):Int:=if p=0 then 0 else ((c.done.take k).countP (fun r=>decide (r.getD s 0=(p:Int))):Nat)
def placesUpTo(c:Cup)(s k:Nat):List Int:=(List.range 61).map (oO c s k)
def placesM(c:Cup)(s:Nat):List Int:=placesUpTo c s c.done.length
theorem placesUpTo_length(c:Cup)(s k:Nat):(placesUpTo c s k).length=61:=by simp [placesUpTo]
theorem placesUpTo_zero(c:Cup)(s:Nat):placesUpTo c s 0=zeros61:=by
 unfold placesUpTo zeros61;apply List.ext_getElem (by simp)
 intro i h1 h2;simp only [List.getElem_map,List.getElem_range,List.getElem_replicate,oO,List.take_zero,List.countP_nil]
 split <;> rfl
theorem placesUpTo_bd(c:Cup)(s k p:Nat)(h:p<(placesUpTo c s k).length):0≤(placesUpTo c s k)[p]∧(placesUpTo c s k)[p]≤k:=by
 simp only [placesUpTo,List.getElem_map,List.getElem_range,oO]
 split
 ·omega
 ·have h1:(c.done.take k).countP (fun r=>decide (r.getD s 0=(p:Int)))≤(c.done.take k).length:=List.countP_le_length
  have h2:(c.done.take k).length≤k:=List.length_take_le _ _;omega

theorem placesUpTo_none(c:Cup)(s k:Nat)(hk:k<c.done.length)(h:c.done[k].getD s 0=0):placesUpTo c s (k+1)=placesUpTo c s k:=by
 unfold placesUpTo;apply List.map_congr_left;intro p _;unfold oO
 split
 ·rfl
 ·rw [List.take_succ_eq_append_getElem hk,List.countP_append,List.countP_singleton,h]
  rw [if_neg (by simp;omega)]
  simp

theorem placesUpTo_some(c:Cup)(s k p:Nat)(hk:k<c.done.length)(h:c.done[k].getD s 0=(p:Int))(hp:0<p)(Gj:p<61)(hl:p<(placesUpTo c s k).length) :
  placesUpTo c s (k+1)=(placesUpTo c s k).set p ((placesUpTo c s k)[p]+1):=by
 apply List.ext_getElem (by simp [placesUpTo])
 intro i h1 h2;rw [List.getElem_set];simp only [placesUpTo,List.getElem_map,List.getElem_range,oO]
 by_cases hi:p=i
 ·subst hi
  rw [if_pos rfl,if_neg (by omega),if_neg (by omega),List.take_succ_eq_append_getElem hk,List.countP_append,List.countP_singleton,h]
  simp
 ·rw [if_neg hi]
  split
  ·rfl
  ·rw [List.take_succ_eq_append_getElem hk,List.countP_append,List.countP_singleton,h]
   rw [if_neg (by simp;omega)]
   simp

theorem scoreM_bd(pts race:List Int)(s:Nat)(hpr:∀ x∈pts,0≤x∧x≤1000):0≤scoreM pts race s∧scoreM pts race s≤1000:=by
 unfold scoreM
 split
 ·omega
 ·have h1:=worthM_bd pts (race.getD s 0).toNat (race.count (race.getD s 0)) hpr
  generalize race.count (race.getD s 0)=m at *
  generalize worthM pts (race.getD s 0).toNat m=x at *
  by_cases hm:m=0
  ·subst hm;simp
  ·refine ⟨Int.ediv_nonneg h1.1 (by omega),?_⟩
   have:x / (m:Int)≤(1000*(m:Int)) / (m:Int):=Int.ediv_le_ediv (by omega) h1.2
   rwa [Int.mul_ediv_cancel _ (by omega)] at this

theorem countedL_mem{c:Cup}{s:Nat}{x:Int}(h:x∈countedL c s):∃ k:Nat,x=k∧k<c.done.length:=by
 unfold countedL at h
 rw [List.mem_mergeSort] at h
 exact idx_mem ((isort_mem _ _ _).1 (List.mem_of_mem_take h))
theorem countedL_length(c:Cup)(s:Nat):(countedL c s).length=min c.done.length c.be.toNat:=by
 unfold countedL;rw [List.length_mergeSort,List.length_take,isort_length,idx_length];omega

def partTotal(c:Cup)(s k:Nat):Int:=(((countedL c s).take k).map fun i=>scoreAt c i.toNat s).sum
theorem partTotal_succ(c:Cup)(s k:Nat)(h:k<(countedL c s).length):partTotal c s (k+1)=partTotal c s k+scoreAt c (countedL c s)[k].toNat s:=by
 unfold partTotal;rw [List.take_succ_eq_append_getElem h,List.map_append,List.sum_append];simp
theorem partTotal_bd(c:Cup)(hV:Valid c)(s:Nat):∀ k,0≤partTotal c s k∧partTotal c s k≤1000*k:=by
 intro k;unfold partTotal;have:=sum_bd (((countedL c s).take k).map fun i=>scoreAt c i.toNat s) (fun x hx=>by
  rw [List.mem_map] at hx
  obtain ⟨i,_,rfl⟩:=hx;exact scoreM_bd _ _ _ hV.pts)
 have h2:(((countedL c s).take k).map fun i=>scoreAt c i.toNat s).length≤k:=by simp;omega
 omega

theorem tG:∀ (xs ys:List Int),xs.length=ys.length→((List.range xs.length).all fun i=>xs.getD i 0 == ys.getD i 0)=decide (xs=ys)
 | [],[],_=>rfl
 | x::xs,y::ys,h=>by
  have ih:=tG xs ys (by simpa using h)
  rw [List.length_cons,List.range_succ_eq_map,List.all_cons,List.all_map];simp only [List.getD_cons_zero,Function.comp_def,List.getD_cons_succ,ih]
  by_cases hxy:x=y
  ·subst hxy;simp
  ·simp [hxy]
 | [],_::_,h=>by simp at h
 | _::_,[],h=>by simp at h

def lexFrom(p1 p2:List Int):Nat→Nat→Bool
 | 0,_=>false
 | f+1,i=>if p1.getD i 0=p2.getD i 0 then lexFrom p1 p2 f (i+1) else decide (p2.getD i 0<p1.getD i 0)
def betterF(t1 t2:Int)(p1 p2:List Int):Bool:=if t1=t2 then lexFrom p1 p2 60 1 else decide (t2<t1)

theorem xA(p:List Int):∀ f i,lexFrom p p f i=false
 | 0,_=>rfl
 | f+1,i=>by rw [lexFrom,if_pos rfl];exact xA p f (i+1)

def oth(skier k:Nat):List Nat:=(List.range k).filter (fun s=>decide (s≠skier))

theorem tH(skier:Nat):oth skier (skier+1)=oth skier skier:=by simp [oth,List.range_succ]
theorem mH(skier k:Nat)(h:k≠skier):oth skier (k+1)=oth skier k++[k]:=by simp [oth,List.range_succ,h]
theorem uT(skier:Nat){k m:Nat}(h:k≤m):oth skier k <+: oth skier m:=by
 obtain ⟨d,rfl⟩:=Nat.exists_eq_add_of_le h;unfold oth;rw [List.range_add,List.filter_append];exact List.prefix_append _ _
theorem bXe{skier k x:Nat}(h:x∈oth skier k):x<k∧x≠skier:=by simpa [oth] using h
theorem bQk(skier:Nat){k m:Nat}(h:k<m)(hk:k≠skier):(oth skier k).length<(oth skier m).length:=by
 have:=(uT skier (Nat.succ_le_of_lt h)).length_le;rw [Nat.succ_eq_add_one,mH skier k hk,List.length_append,List.length_singleton] at this
 omega

def betS(c:Cup)(a b:Nat):Bool:=betterF (totalM c a) (totalM c b) (placesM c a) (placesM c b)
def rankM(c:Cup)(s:Nat):Int:=1+((oth s c.sk.toNat).countP (fun x=>betS c x s):Nat)
def nQ(c:Cup)(s:Nat)(pre:List Nat):Int:=1+(pre.countP (fun x=>betS c x s):Nat)

theorem aAa(c:Cup)(s:Nat)(pre:List Nat)(x:Nat):nQ c s (pre++[x])=if betS c x s=true then nQ c s pre+1 else nQ c s pre:=by
 unfold nQ;rw [List.countP_append,List.countP_singleton]
 split <;> omega
theorem bJi(c:Cup)(s:Nat)(pre:List Nat):1≤nQ c s pre∧nQ c s pre≤1+pre.length:=by
 unfold nQ;have:=List.countP_le_length (p:=fun x=>betS c x s) (l:=pre)
 omega
theorem aYp(s k:Nat):(oth s k).length≤k:=by
 unfold oth;exact Nat.le_trans (List.length_filter_le _ _) (by simp)

def totalsUp(c:Cup)(k:Nat):List Int:=(List.range k).map (totalM c)
def totalsM(c:Cup):List Int:=totalsUp c c.sk.toNat
theorem totalsUp_succ(c:Cup)(k:Nat):totalsUp c (k+1)=totalsUp c k++[totalM c k]:=by simp [totalsUp,List.range_succ]
theorem totalsUp_length(c:Cup)(k:Nat):(totalsUp c k).length=k:=by simp [totalsUp]

def wonRace(n s:Nat):List Int:=(List.replicate n (0:Int)).set s 1
theorem aFd(n s:Nat):(wonRace n s).length=n:=by simp [wonRace]

def wonM(c:Cup)(s:Nat):List (List Int):=List.replicate (c.ra.toNat-c.done.length) (wonRace c.sk.toNat s)
theorem replicate_snoc{α:Type}(k:Nat)(x:α):List.replicate k x++[x]=List.replicate (k+1) x:=(List.replicate_succ' ..).symm

def withC(c:Cup)(f:List (List Int)):Cup:={ c with done:=c.done++f }

theorem aFe{c:Cup}{f:List (List Int)}(hV:Valid c)(h0:(c.done.length+f.length:Int)≤c.ra)(h1:∀ r∈f,(r.length:Int)=c.sk)(h2:∀ r∈f,∀ x∈r,0≤x∧x≤60)(h3:f.any clashR=false):Valid (withC c f):=by
 refine ⟨hV.sk1,hV.sk2,hV.ra1,hV.ra2,hV.be1,hV.be2,hV.pt1,hV.pt2,?_,?_,hV.pts,?_,hV.falls,?_⟩
 ·show ((c.done++f).length:Int)≤c.ra
  rw [List.length_append];exact h0
 ·intro r hr
  rcases List.mem_append.1 hr with h | h
  ·exact hV.len r h
  ·exact h1 r h
 ·intro r hr
  rcases List.mem_append.1 hr with h | h
  ·exact hV.rows r h
  ·exact h2 r h
 ·show (c.done++f).any clashR=false
  rw [List.any_append,hV.clash,h3];rfl

theorem aYq:∀ n,n<13→∀ s,s<n→(wonRace n s).filter (fun x => !nz x)=[1]:=by decide

theorem aRr{n s:Nat}{x:Int}(h:x∈wonRace n s):0≤x∧x≤60:=by
 unfold wonRace at h
 rcases List.mem_or_eq_of_mem_set h with h | h
 ·rw [List.mem_replicate] at h;omega
 ·omega

theorem aGs{n s:Nat}(hn:n≤12)(hs:s<n):clashR (wonRace n s)=false:=by
 unfold clashR placesOf;rw [aYq n (by omega) s hs,List.mergeSort_singleton]
 decide

theorem valid_won{c:Cup}(hV:Valid c){s:Nat}(hs:(s:Int)<c.sk):Valid (withC c (wonM c s)):=by
 have h1:=hV.sk1;have h2:=hV.sk2;have h3:=hV.dn;refine aFe hV ?_ (fun r hr => ?_) (fun r hr x hx => ?_) ?_
 ·unfold wonM;rw [List.length_replicate];omega
 ·unfold wonM at hr;rw [List.mem_replicate] at hr;rw [hr.2,aFd];omega
 ·unfold wonM at hr;rw [List.mem_replicate] at hr;rw [hr.2] at hx;exact aRr hx
 ·rw [List.any_eq_false]
  intro r hr;unfold wonM at hr;rw [List.mem_replicate] at hr;rw [hr.2,aGs (by omega) (by omega)];decide
def canM(c:Cup)(s:Nat):Bool:=rankM (withC c (wonM c s)) s == 1

def passes(c:Cup)(skier s:Nat):Bool:=decide (s≠skier) && decide (1<rankM (withC c (wonM c s)) skier)
def againstAt(c:Cup)(skier:Nat):Nat→Nat→Option Nat
 | 0,_=>none
 | f+1,k=>if passes c skier k then some k else againstAt c skier f (k+1)
def againstM(c:Cup)(skier:Nat):Option Nat:=againstAt c skier c.sk.toNat 0

theorem againstAt_step(c:Cup)(skier f k:Nat):againstAt c skier (f+1) k=if passes c skier k then some k else againstAt c skier f (k+1):=rfl

def sureM(c:Cup)(s:Nat):Bool := !(againstM c s).isSome

end KC
end Go.Proofs
end
section
namespace Go.Proofs
open KC
namespace KV
open Tryz
namespace CU
def aMj(i:Nat):St:=⟨fr 19 [(0,(.p cX)),(1,(.fn 172 [] [])),(7,(pI 0)),(8,(pI (i:Int)))],[]⟩
theorem cDy{Ar:Nat}(hl0:aE Tp 0 (sub (cd Tryz.f163) db) (aMj  0) (.exit 0) (aMj  Ar)){base:Nat}:FV Tp 163 [(.p cX),(.fn 172 [] [])] base (pI (-1)) []:=FV.fi func163 [hl0.k 6 (gZ dg)] (gc hl0.code gn)
theorem bIm{i:Nat}(h0:(0:Int)≤(i:Int)):aB Tp 0 (sub (cd Tryz.f163) db) (aMj  i) (.exit 0) (aMj  i):=aB.fi (gZ dg) [bF] (gc (aQ h0) gn)
theorem cDz{base:Nat}:FV Tp 163 [.p cX,.fn 172 [] []] base (pI (-1)) []:=cDy (.exit (bIm (aTx _)) (by simp))
theorem cFz  : FMM Tp 137 [(.p cX),(.fn 172 [] [])] [] (.p cX) []:=FMM.fi 0 gE func137 [.c (pI (-1)) [],bT] (gt (((-1:Int) == (-1))=true) (by first | decide | simp) (gc (fk 0 cDz rfl) gn))
end CU
end KV
end Go.Proofs
end
section
namespace Go.Proofs
open Go.Shelf
def Tryz.layDel_ren:Go.Shelf.Ren:=⟨fun | 10=>137 | 6=>163 | n=>n,fun | 22=>31 | 23=>3 | 25=>44 | 3=>3 | 4=>4 | 0=>0 | n=>n,fun | n=>n⟩
theorem Tryz.layDel:Go.Proofs.SlLaysH.n10 Tryz.prog Tryz.layDel_ren:={
 mixed:=by kernel_rfl
 f6:=⟨Tryz.f163.name,by decide,func163.trans (congrArg some (by kernel_rfl))⟩
 f10:=⟨Tryz.f137.name,by decide,func137.trans (congrArg some (by kernel_rfl))⟩
 t0:=Tryz.underlying0
 a0:=Tryz.isAgg0
 z0:=Tryz.sizeOf0
 v0:=Tryz.zeroValue0
 t3:=Tryz.underlying3
 a3:=Tryz.isAgg3
 z3:=Tryz.sizeOf3
 v3:=Tryz.zeroValue3
 t4:=Tryz.underlying4
 a4:=Tryz.isAgg4
 z4:=Tryz.sizeOf4
 v4:=Tryz.zeroValue4
 t22:=Tryz.underlying31
 a22:=Tryz.isAgg31
 z22:=Tryz.sizeOf31
 v22:=Tryz.zeroValue31
 a23:=Tryz.isAgg3
 z23:=Tryz.sizeOf3
 t25:=Tryz.underlying44
 a25:=Tryz.isAgg44
 z25:=Tryz.sizeOf44
 v25:=Tryz.zeroValue44 }
end Go.Proofs
end
section
namespace Go.Proofs
open Go.RowKit Go.Lib Go.Sort
namespace KV
open Tryz
namespace CU
variable {C:Cx} {M:Mem} {w w':World}
structure cGa (P:Program) (g:FuncId) (p:Int→Bool):Prop where
 enters:∀ args W,(callFunc g args).run P W = .ok (.enter g args) W
 gives:∀ W x,Calls P g #[.int .i64 x] W fun e w'=>e = .returned (.bool (p x))∧W=w'
theorem Jj:cGa Tp 172 (fun x=>x == 0):=by
 refine ⟨enters_of func172 (by kernel_rfl) rfl,fun W x => ?_⟩
 cases h:x == 0
 ·have hh:=hid h
  go_enter func172,Tryz.ntmps172
  go_wp2
  go_ret
  exact ⟨rfl,rfl⟩
 ·have hh:=hid h
  go_enter func172,Tryz.ntmps172
  go_wp2
  go_ret
  exact ⟨rfl,rfl⟩
def R6:Cx:={ ι:=fun _=>none,κ:=fun _=>0,F:=fun _=>False }
theorem bQl(w:World)(n:Nat):CallsIn Fence.wide n Tp 137 #[.slice none 0 0,.func (.func 172) #[] #[]] w (fun e w'=>e = .returned (.slice none 0 0)∧w.grownBy w' none):=by
 have B4:aP Tp R6 [] w:=⟨fun _ _ _ _ h=>by simp at h,fun _ _ _ h=>by simp at h,fun _ _ _ h=>by simp at h,fun _ _ _ _ _ h=>by simp at h,fun _ _ _ h=>by simp at h,fun _ h=>h.elim,fun _ _ _ h=>by simp at h⟩
 refine (cFz R6 w [.slice none 0 0,.func (.func 172) #[] #[]] (.cons _ _ _ _ (.p _ _ (.v _)) (.cons _ _ _ _ (.fn _ _ _ _ _ rfl rfl (fun i h=>by simp at h) (fun i h=>by simp at h)) .nil)) B4 n).mono ?_
 rintro e w' ⟨u,rfl,C',hF,Bz,hr⟩;cases hr with
 | p _ _ hr =>
  cases hr;exact ⟨rfl,hF.os,hF.tape,hF.out,hF.size,fun k hk _=>hF.keep k hk (fun _ _ h=>by simp at h)⟩
theorem aFf(l:List Int)(hl:l.length≤1000):FMM Tp 137 [.own 0,.fn 172 [] []] [some (fA l)] (.own 1) [some .dead,some (fA (l.filter fun x => !(x == 0)))]:=fun C w us hus hM n=>by
 obtain ⟨u,v,rfl,hu,hv⟩:=wA hus;obtain rfl:=bMo hv;have hown:KL.OwnI w 0 u l:=aWf hM rfl hu;have hO:=hown;have fin:∀ {w':World} {u':Value},KL.OwnI w' 0 u' (l.filter fun x => !(x == 0))→w.grownBy w' u.ownBlock→u'.ownBlock=u.ownBlock→∃ C',Fr C [some (fA l)] w C' [some .dead,some (fA (l.filter fun x => !(x == 0)))] w'∧aP Tp C' [some .dead,some (fA (l.filter fun x => !(x == 0)))] w'∧Rep C' [some .dead,some (fA (l.filter fun x => !(x == 0)))] w' (.own 1) u':=fun h1 h2 h3=>yL (d:=true) hM hu h1 h2 h3 (fun h=>by cases h)
 rcases hown.2 with ⟨rfl,h0⟩ | ⟨b,cap,cur,rfl,hb,hg,hn,hm,hs,ht⟩
 ·have:l=[]:=sO h0
  subst this;refine (bQl w n).mono ?_;rintro e w' ⟨rfl,h2⟩;obtain ⟨C',f,m,r⟩:=fin (World.ownsRow_nil _ _ _ _) h2 rfl;exact ⟨_,rfl,C',f,m,r⟩
 ·have hp:=Jj
  refine (callsIn_wide.2 (AnyE.slices_DeleteFunc Tryz.layDel (Value.int .i64) (fun _=>rfl) (fun x=>x == 0) 172 #[] hp.enters 0 Tryz.zeroValue3 b 0 cap l.toArray w
   (fun W x _=>(hp.gives W x).mono fun e w' ⟨he,hw⟩=>⟨he,0,hw.symm⟩) (fun n os dk x _=>(hp.gives _ x).mono fun e w' ⟨he,hw⟩=>⟨he,0,hw.symm⟩)
   (holds_of_blockI hg (by simpa using ht)) (by simp;omega) (by simpa using hn))).mono ?_
  rintro e w' ⟨rfl,q,rfl⟩;have hfl:(l.filter fun x => !(x == 0)).length≤l.length:=aTv _ _
  obtain ⟨C',f,m,r⟩:=fin (u' := .slice (some ⟨b,0,none⟩) (l.filter fun x => !(x == 0)).length cap) (by
   have:=ownsRow_putRow (enc:=Value.int .i64) (q:=q) (k:=(l.filter fun x => !(x == 0)).length) (ys:=(l.filter fun x => !(x == 0))++List.replicate (l.length-(l.filter fun x => !(x == 0)).length) 0) hO (by simp;omega) hfl
   unfold KL.OwnI;simpa using this) (grownBy_sortedI (os := #[]) (n:=q) (g:=b) (w:=w) (((l.filter fun x => !(x == 0))++List.replicate (l.length-(l.filter fun x => !(x == 0)).length) 0).toArray)) rfl
  exact ⟨_,by simp,C',f,m,r⟩
theorem sortI_ok(l:List Int)(hl:l.length≤1000):FMM Tp 161 [.own 0] [some (fA l)] (.tup []) [some (fA (l.mergeSort KC.leB))]:=KV.sortI_ok l (by omega)
theorem sK(l:List Int)(hl:l.length≤1000){base:Nat}:FV Tp 107 [.p (aC l)] base (.own base) [(base,fA l)]:=cCj l hl
end CU
end KV
end Go.Proofs
end
section
namespace Go.Proofs
open KC
namespace KV
open Tryz
variable {r0:Bool}{f f' Qs Ac Az:Int}{l race:List Int}{i i' Ar base:Nat}
namespace CU
noncomputable abbrev kI:Code:=sub (cd Tryz.f117) [1,1,1,1,0,1,0,0]
noncomputable abbrev uS:Code:=sub (cd Tryz.f169) [1,0,1,0,0]
noncomputable abbrev aEy:Code:=sub (cd Tryz.f171) [1,0,1,0,0]
def jV(l:List Int)(i:Int):St:=⟨fr 25 [(0,(.p (aC l))),(1,(.fn 170 [] [])),(5,(pI i))],[]⟩
theorem bQf{Ar:Int}(h0:inR ((l.length:Int)-1))(hl1:aE Tp 0 uS (jV l ((l.length:Int)-1)) (.exit 0) (jV l Ar)):FV Tp 169 [(.p (aC l)),(.fn 170 [] [])] base (pB true) []:=FV.fi func169 [hl1.k 6 (gZ [2,3,6,19])] (gc hl1.code (gc h0 gn))
theorem cDv{Ar:Int}(h0:inR ((l.length:Int)-1))(hl1:aE Tp 0 uS (jV l ((l.length:Int)-1)) .ret (bZ (jV l Ar) [(4,(.kb false))])):FV Tp 169 [(.p (aC l)),(.fn 170 [] [])] base (pB false) []:=FV.fi func169 [hl1.k 6 (gZ [2,3,6,19])] (gc hl1.code (gc h0 gn))
section
variable{i:Int}(h0:(0:Int)<i)(h1:l[i.toNat]? = some Ac)(h2:0≤i)(h3:inR (i-1))(h4:l[(i-1).toNat]? = some Az)(h5:0≤(i-1))
include h0 h1 h2 h3 h4 h5
theorem bIk(h6:(cmpI Az Ac)<0):aB Tp 0 uS (jV l i) .ret (bZ (jV l i) [(4,(.kb false))]):=have k1:=fk 0 (bBj Ac Az) rfl;aB.fi (gZ [2,2,6,19]) [bT,.x (aA Ac),.x (aA Az),k1.o,bT] (gc (bD h6) (gc k1 (gt ((l.map aA)[((i-1).toNat*1)]? = some (aA Az)) (cE (i:=(i-1).toNat) h4) (gc (gQ (g:=aA) h5 h4) (gc h3 (gt ((l.map aA)[(i.toNat*1)]? = some (aA Ac)) (cE (i:=i.toNat) h1) (gc (gQ (g:=aA) h2 h1) (g0 h0))))))))
theorem bIl{i':Int}(h6:(0:Int)≤(cmpI Az Ac))(Ai:i'=(i-1)):aB Tp 0 uS (jV l i) .normal (jV l i'):=by
 subst Ai;have k1:=fk 0 (bBj Ac Az) rfl;exact aB.fi (gZ [2,3,6,19]) [bT,.x (aA Ac),.x (aA Az),k1.o,bF] (gc h3 (gc (aQ h6) (gc k1 (gt ((l.map aA)[((i-1).toNat*1)]? = some (aA Az)) (cE (i:=(i-1).toNat) h4) (gc (gQ (g:=aA) h5 h4) (gc h3 (gt ((l.map aA)[(i.toNat*1)]? = some (aA Ac)) (cE (i:=i.toNat) h1) (gc (gQ (g:=aA) h2 h1) (g0 h0)))))))))
end
theorem aIz{i:Int}(h0:i≤0):aB Tp 0 uS (jV l i) (.exit 0) (jV l i):=aB.fi (gZ [2,3,6,19]) [bF] (gc (aQ h0) gn)
def cI(race:List Int)(i:Nat)(f:Int):St:=⟨fr 39 [(3,(.own 0)),(4,(pI f)),(12,(.own 0)),(13,(pI (((race.filter fun x => !(x == 0)).mergeSort KC.leB).length:Int))),(14,(pI (i:Int)))],[some (.row 3 (((race.filter fun x => !(x == 0)).mergeSort KC.leB).length) (((race.filter fun x => !(x == 0)).mergeSort KC.leB).map aA))]⟩
section
variable(h0:race.length≤1000)(h1:(race.filter fun x => !(x == 0)).length≤1000)
include h0 h1
theorem bWm(Bo:aE Tp 0 kI (cI race 0 1) (.exit 0) (cI race Ar Qs))(Ak:r0=(decide (Qs > 61))):FV Tp 117 [(.p (aC race))] base (pB r0) []:=by
 subst Ak;have k1:=fk 0 (sK race h0) rfl;have k2:=mq [0] 1 (aFf race h0);have k3:=mq [1] 2 (sortI_ok (race.filter fun x => !(x == 0)) h1);exact FV.fi func117 [k1.o,k2.o,k3.o,Bo.k 6 (gI cq [1])] (gc Bo.code (gc k3 (gc k2 (gc k1 gn))))
theorem bWn(Bo:aE Tp 0 kI (cI race 0 1) .ret (bZ (cI race Ar Qs) [(2,(.kb true))])):FV Tp 117 [(.p (aC race))] base (pB true) []:=have k1:=fk 0 (sK race h0) rfl;have k2:=mq [0] 1 (aFf race h0);have k3:=mq [1] 2 (sortI_ok (race.filter fun x => !(x == 0)) h1);FV.fi func117 [k1.o,k2.o,k3.o,Bo.k 6 (gI cq [1])] (gc Bo.code (gc k3 (gc k2 (gc k1 gn))))
end
section
variable(h0:(i:Int)<(((race.filter fun x => !(x == 0)).mergeSort KC.leB).length:Int))(h1:((race.filter fun x => !(x == 0)).mergeSort KC.leB)[i]? = some Ac)(h2:(i:Int)=0)
include h0 h1 h2
theorem aXh(h3:Ac<f):aB Tp 0 kI (cI race i f) .ret (bZ (cI race i f) [(2,(.kb true))]):=aB.fi (gI [0,2,5,7,15,22] [0]) ([bT,.x (aA Ac)]++rT 9) (gc (bD h3) (Fy (cF h2) (gc (atm aA h1) (gc (aZ (i:=(i:Int)) (jA _) h1) (g0 h0)))))
theorem aXi(h3:f≤Ac)(h4:inR (Ac+1))(h5:di i)(Ai:i'=(i+1))(Nc:f'=(Ac+1)):aB Tp 0 kI (cI race i f) .normal (cI race i' f'):=by
 subst Ai Nc;exact aB.fi (gI cq [0]) ([bT,.x (aA Ac)]++rT 8++[bF]) (gc h5 (gc h4 (gc (aQ h3) (Fy (cF h2) (gc (atm aA h1) (gc (aZ (i:=(i:Int)) (jA _) h1) (g0 h0)))))))
end
section
variable(h0:(i:Int)<(((race.filter fun x => !(x == 0)).mergeSort KC.leB).length:Int))(h1:((race.filter fun x => !(x == 0)).mergeSort KC.leB)[i]? = some Ac)(h2:(i:Int)≠0)(h3:inR ((i:Int)-1))(h4:((race.filter fun x => !(x == 0)).mergeSort KC.leB)[((i:Int)-1).toNat]? = some Az)(h5:0≤((i:Int)-1))
include h0 h1 h2 h3 h4 h5
theorem aXj(h6:Ac≠Az)(h7:Ac<f):aB Tp 0 kI (cI race i f) .ret (bZ (cI race i f) [(2,(.kb true))]):=aB.fi (gI [0,2,5,7,15,22] [0]) ([bT,.x (aA Ac)]++rF 6++[.x (aA Az),bF,bF,bT,bT]) (gc (bD h7) (gc (gY h6) (Ap (bK h2) (gt ((((race.filter fun x => !(x == 0)).mergeSort KC.leB).map aA)[(((i:Int)-1).toNat*1)]? = some (aA Az)) (cE (i:=((i:Int)-1).toNat) h4) (gc (bK h2) (gc (aZ (i:=((i:Int)-1)) h5 h4) (gc (bK h2) (gc h3 (Bf (bK h2) (gc (atm aA h1) (gc (aZ (i:=(i:Int)) (jA _) h1) (g0 h0))))))))))))
theorem aXk(h6:Ac≠Az)(h7:f≤Ac)(h8:inR (Ac+1))(h9:di i)(Ai:i'=(i+1))(Nc:f'=(Ac+1)):aB Tp 0 kI (cI race i f) .normal (cI race i' f'):=by
 subst Ai Nc;exact aB.fi (gI cq [0]) ([bT,.x (aA Ac)]++rF 6++[.x (aA Az),bF,bF,bT,bF]) (gc h9 (gc h8 (gc (aQ h7) (gc (gY h6) (Ap (bK h2) (gt ((((race.filter fun x => !(x == 0)).mergeSort KC.leB).map aA)[(((i:Int)-1).toNat*1)]? = some (aA Az)) (cE (i:=((i:Int)-1).toNat) h4) (gc (bK h2) (gc (aZ (i:=((i:Int)-1)) h5 h4) (gc (bK h2) (gc h3 (Bf (bK h2) (gc (atm aA h1) (gc (aZ (i:=(i:Int)) (jA _) h1) (g0 h0))))))))))))))
theorem aXl(h6:Ac=Az)(h7:inR (f+1))(h8:di i)(Ai:i'=(i+1))(Nc:f'=(f+1)):aB Tp 0 kI (cI race i f) .normal (cI race i' f'):=by
 subst Ai Nc;exact aB.fi (gI cq [0]) ([bT,.x (aA Ac)]++rF 6++[.x (aA Az),bF,bF,bF]) (gc h8 (gc h7 (gc (cR h6) (Ap (bK h2) (gt ((((race.filter fun x => !(x == 0)).mergeSort KC.leB).map aA)[(((i:Int)-1).toNat*1)]? = some (aA Az)) (cE (i:=((i:Int)-1).toNat) h4) (gc (bK h2) (gc (aZ (i:=((i:Int)-1)) h5 h4) (gc (bK h2) (gc h3 (Bf (bK h2) (gc (atm aA h1) (gc (aZ (i:=(i:Int)) (jA _) h1) (g0 h0)))))))))))))
end
theorem aXm(h0:(((race.filter fun x => !(x == 0)).mergeSort KC.leB).length:Int)≤(i:Int)):aB Tp 0 kI (cI race i f) (.exit 0) (cI race i f):=aB.fi (gI cq [0]) [bF] (gc (aQ h0) gn)
abbrev cFy(c:KC.Cup):List PV:=[aA c.sk,aA c.ra,aA c.be,aC c.pts,aR c.done]
abbrev cupP(c:KC.Cup):PV := .agg (cFy c)
theorem aRo{l:List Int}(hl:l.length≤1000):∀ (n:Nat) (i:Int),i=n→n<l.length →
  ((∀ j,j<n→0≤cmpI (l.getD j 0) (l.getD (j+1) 0))∧aE Tp 0 uS (jV l i) (.exit 0) (jV l 0))∨((∃ j,j<n∧cmpI (l.getD j 0) (l.getD (j+1) 0)<0)∧∃ i',aE Tp 0 uS (jV l i) .ret (bZ (jV l i') [(4,(.kb false))]))
 | 0,i,e,h=>by
  have e:i=0:=by omega
  subst e;exact .inl ⟨fun j hj=>by omega,.exit (aIz (by omega)) (by simp)⟩
 | n+1,i,e,h=>by
  subst e;have a1:l[((n+1:Nat):Int).toNat]? = some l[n+1]:=An h;have e2:(((n+1:Nat):Int)-1).toNat=n:=by omega
  have a2:l[(((n+1:Nat):Int)-1).toNat]? = some l[n]:=by rw [e2];exact An (by omega)
  have g1:l.getD (n+1) 0=l[n+1]:=by rw [Bj,An h];rfl
  have g2:l.getD n 0=l[n]:=by rw [Bj,An (by omega)];rfl
  by_cases hc:cmpI l[n] l[n+1]<0
  ·exact .inr ⟨⟨n,by omega,by rw [g1,g2];exact hc⟩,_,.exit (bIk (by omega) a1 (by omega) (by show _∧_;omega) a2 (by omega) hc) (by simp)⟩
  ·have st:=bIl (i':=(n:Int)) (by omega) a1 (by omega) (by show _∧_;omega) a2 (by omega) (by omega) (by omega)
   rcases aRo hl n n rfl (by omega) with ⟨h1,h2⟩ | ⟨⟨j,h1,h3⟩,i',h2⟩
   ·refine .inl ⟨fun j hj => ?_,.step st h2⟩
    by_cases hjn:j<n
    ·exact h1 j hjn
    ·obtain rfl:j=n:=by omega
     rw [g1,g2];omega
   ·exact .inr ⟨⟨j,by omega,h3⟩,i',.step st h2⟩
theorem cDw(l:List Int)(hl:l.length≤1000){base:Nat}:FV Tp 169 [.p (aC l),.fn 170 [] []] base (pB (KC.fallsB l)) []:=by
 have hf:KC.fallsB l=decide (∀ j,j<l.length-1→0≤cmpI (l.getD j 0) (l.getD (j+1) 0)):=rfl;rw [hf]
 by_cases h0:l.length=0
 ·rw [decide_eq_true (by intro j hj;omega)]
  exact bQf (Ar:=(l.length:Int)-1) (by show _∧_;omega) (.exit (aIz (by omega)) (by simp))
 ·rcases aRo hl (l.length-1) ((l.length:Int)-1) (by omega) (by omega) with ⟨h1,h2⟩ | ⟨⟨j,h1,h3⟩,i',h2⟩
  ·rw [decide_eq_true h1]
   exact bQf (by show _∧_;omega) h2
  ·rw [decide_eq_false (fun h=>by have:=h j h1;omega)]
   exact cDv (by show _∧_;omega) h2
theorem bWo(h0:l.length≤1000)(Ak:r0=(KC.fallsB l)):FV Tp 115 [(.p (aC l))] base (pB r0) []:=by
 subst Ak;have k1:=fk 0 (cDw l h0) rfl;exact FV.fi func115 [k1.o] (gc k1 gn)
theorem wZ(l:List Int)(hl:l.length≤1000){base:Nat}:FV Tp 115 [.p (aC l)] base (pB (KC.fallsB l)) []:=bWo hl rfl
def tF(x:List Int):Prop:=x.length≤1000∧∀ y∈x,0≤y∧y≤1000
theorem aMi(race:List Int):(race.filter fun x => !(x == 0)).mergeSort KC.leB=KC.placesOf race:=by
 unfold KC.placesOf KC.nz
 congr 1
theorem aRp{race:List Int}(hs:tF race):∀ (n k:Nat) (f:Int),k+n=(KC.placesOf race).length→1≤f∧f≤1001+k →
  (∃ g,KC.clashLoop (KC.prevOf (KC.placesOf race) k) f ((KC.placesOf race).drop k)=some g∧aE Tp 0 kI (cI race k f) (.exit 0) (cI race (KC.placesOf race).length g))∨(KC.clashLoop (KC.prevOf (KC.placesOf race) k) f ((KC.placesOf race).drop k)=none∧∃ i' f',aE Tp 0 kI (cI race k f) .ret (bZ (cI race i' f') [(2,(.kb true))]))
 | 0,k,f,e,hf=>by
  obtain rfl:k=(KC.placesOf race).length:=by omega
  rw [List.drop_length];exact .inl ⟨f,rfl,.exit (aXm (by rw [aMi];omega)) (by simp)⟩
 | n+1,k,f,e,hf=>by
  have hk:k<(KC.placesOf race).length:=by omega
  obtain ⟨b1,b2⟩:=KC.placesOf_bd race hs.2;have hb:=b2 k hk;have hl:=hs.1;have a1:((race.filter fun x => !(x == 0)).mergeSort KC.leB)[k]? = some (KC.placesOf race)[k]:=by rw [aMi];exact An hk
  have hlt:(k:Int)<(((race.filter fun x => !(x == 0)).mergeSort KC.leB).length:Int):=by rw [aMi];omega
  have hstep:=KC.clashLoop_step (KC.placesOf race) k hk f;rw [hstep];have fin:∀ f',1≤f'∧f'≤1001+((k+1:Nat):Int)→aB Tp 0 kI (cI race k f) .normal (cI race (k+1) f')→(∃ g,KC.clashLoop (KC.prevOf (KC.placesOf race) (k+1)) f' ((KC.placesOf race).drop (k+1))=some g∧aE Tp 0 kI (cI race k f) (.exit 0) (cI race (KC.placesOf race).length g))∨(KC.clashLoop (KC.prevOf (KC.placesOf race) (k+1)) f' ((KC.placesOf race).drop (k+1))=none∧∃ i' f',aE Tp 0 kI (cI race k f) .ret (bZ (cI race i' f') [(2,(.kb true))])):=fun f' U3 st=>by
   rcases aRp hs n (k+1) f' (by omega) U3 with ⟨g,h1,h2⟩ | ⟨h1,i',f2,h2⟩
   ·exact .inl ⟨g,h1,.step st h2⟩
   ·exact .inr ⟨h1,i',f2,.step st h2⟩
  by_cases h0:k=0
  ·subst h0
   have hp:KC.prevOf (KC.placesOf race) 0=none:=rfl;rw [hp,if_neg (by simp)]
   by_cases hlf:(KC.placesOf race)[0]<f
   ·rw [if_pos hlf]
    exact .inr ⟨rfl,_,_,.exit (aXh hlt a1 rfl hlf) (by simp)⟩
   ·rw [if_neg hlf]
    exact fin _ (by omega) (aXi hlt a1 rfl (by omega) (by show _∧_;omega) (aM (by omega)) rfl rfl)
  ·have e2:((k:Int)-1).toNat=k-1:=by omega
   have a2:((race.filter fun x => !(x == 0)).mergeSort KC.leB)[((k:Int)-1).toNat]? = some ((KC.placesOf race)[k-1]'(by omega)):=by rw [aMi,e2];exact An (by omega)
   have hp:KC.prevOf (KC.placesOf race) k=some ((KC.placesOf race)[k-1]'(by omega)):=by
    unfold KC.prevOf;rw [if_neg h0];exact An (by omega)
   rw [hp]
   by_cases hq:(KC.placesOf race)[k]=(KC.placesOf race)[k-1]'(by omega)
   ·rw [if_pos (by rw [hq])]
    exact fin _ (by omega) (aXl hlt a1 (by omega) (by show _∧_;omega) a2 (by omega) hq (by show _∧_;omega) (aM (by omega)) rfl rfl)
   ·rw [if_neg (by intro h;injection h with h;exact hq h.symm)]
    by_cases hlf:(KC.placesOf race)[k]<f
    ·rw [if_pos hlf]
     exact .inr ⟨rfl,_,_,.exit (aXj hlt a1 (by omega) (by show _∧_;omega) a2 (by omega) hq hlf) (by simp)⟩
    ·rw [if_neg hlf]
     exact fin _ (by omega) (aXk hlt a1 (by omega) (by show _∧_;omega) a2 (by omega) hq (by omega) (by show _∧_;omega) (aM (by omega)) rfl rfl)
theorem bBh(race:List Int)(hs:tF race){base:Nat}:FV Tp 117 [.p (aC race)] base (pB (KC.clashR race)) []:=by
 have hfl:(race.filter fun x => !(x == 0)).length≤1000:=jY (aTv _ _) hs.1
 have e0:KC.clashR race=match KC.clashLoop none 1 (KC.placesOf race) with | none=>true | some f=>decide (61<f):=rfl
 rcases aRp hs (KC.placesOf race).length 0 1 (by omega) (by omega) with ⟨g,h1,h2⟩ | ⟨h1,i',f',h2⟩
 ·rw [show KC.prevOf (KC.placesOf race) 0=none from rfl,List.drop_zero] at h1
  rw [e0,h1];exact bWm hs.1 hfl h2 rfl
 ·rw [show KC.prevOf (KC.placesOf race) 0=none from rfl,List.drop_zero] at h1
  rw [e0,h1];exact bWn hs.1 hfl h2
def gM(l:Lqq)(i:Nat):St:=⟨fr 19 [(0,(.p (aR l))),(1,(.fn 117 [] [])),(7,(pI (l.length:Int))),(8,(pI (i:Int)))],[]⟩
theorem bWp{l:Lqq}(hl0:aE Tp 0 aEy (gM l 0) (.exit 0) (gM l Ar)):FV Tp 171 [(.p (aR l)),(.fn 117 [] [])] base (pI (-1)) []:=FV.fi func171 [hl0.k 6 (gZ dg)] (gc hl0.code gn)
theorem bWq{l:Lqq}(hl0:aE Tp 0 aEy (gM l 0) .ret (bZ (gM l Ar) [(4,(pI (Ar:Int)))])):FV Tp 171 [(.p (aR l)),(.fn 117 [] [])] base (pI (Ar:Int)) []:=FV.fi func171 [hl0.k 6 (gZ dg)] (gc hl0.code gn)
section
variable{l:Lqq}{Ac:List Int}(h0:(i:Int)<(l.length:Int))(h1:l[i]? = some Ac)(h2:tF Ac)
include h0 h1 h2
theorem aXn(h3:(KC.clashR Ac)=true):aB Tp 0 aEy (gM l i) .ret (bZ (gM l i) [(4,(pI (i:Int)))]):=have k1:=fk 0 (bBh Ac h2) rfl;aB.fi (gZ cx) [bT,.x (aC Ac),k1.o,bT] (gc h3 (gc k1 (gc (atm aC h1) (gc (ixn aC h1) (g0 h0)))))
theorem aXo(h3:(KC.clashR Ac)=false)(h4:di i)(Ai:i'=(i+1)):aB Tp 0 aEy (gM l i) .normal (gM l i'):=by
 subst Ai;have k1:=fk 0 (bBh Ac h2) rfl;exact aB.fi (gZ dg) [bT,.x (aC Ac),k1.o,bF] (gc h4 (gc h3 (gc k1 (gc (atm aC h1) (gc (ixn aC h1) (g0 h0))))))
end
theorem aXp{l:Lqq}(h0:(l.length:Int)≤(i:Int)):aB Tp 0 aEy (gM l i) (.exit 0) (gM l i):=aB.fi (gZ dg) [bF] (gc (aQ h0) gn)
theorem bWr(l:Lqq)(hl:small l.length)(he:∀ x∈l,tF x){base:Nat}:FV Tp 171 [.p (aR l),(.fn 117 [] [])] base (pI (fC (fun x=>KC.clashR x) l)) []:=by
 rcases aE.find (P:=Tp) (k:=0) (b:=sub (cd Tryz.f171) db) (fun i=>gM l i) (fun i _=>bZ (gM l i) [(4,.p (aA (i:Int)))]) (gM l l.length) .ret (.exit 0) (by simp) (by simp) (fun x=>KC.clashR x) l
  (fun i x hx hp=>aXo (by have:=aY hx;omega) hx (he x (Br hx)) (by simpa using hp) (aM (by have:=aY hx;omega)) rfl)
  (fun i x hx hp=>aXn (by have:=aY hx;omega) hx (he x (Br hx)) (by simpa using hp))
  (aXp (l:=l) (i:=l.length) (by omega)) with ⟨i,x,h1,h2,h3,h4⟩ | ⟨h1,h2,h3⟩
 ·rw [dR h2];exact bWq h4
 ·rw [dV h1];exact bWp h3
theorem bWs{l:Lqq}(h0:small l.length)(h1:∀ x∈l,tF x)(Ak:r0=(decide ((fC (fun x=>KC.clashR x) l) ≥ 0))):FV Tp 116 [(.p (aR l)),(.fn 117 [] [])] base (pB r0) []:=by
 subst Ak;have k1:=fk 0 (bWr l h0 h1) rfl;exact FV.fi func116 [k1.o] (gc k1 gn)
theorem bBi(l:Lqq)(hl:small l.length)(he:∀ x∈l,tF x){base:Nat}:FV Tp 116 [.p (aR l),(.fn 117 [] [])] base (pB (l.any fun x=>KC.clashR x)) []:=bWs hl he (fD _ _).symm
theorem chk_p0{c:KC.Cup}(h0:(within c.sk 1 12)=false):FV Tp 57 [(.p (cupP c))] base (pI 3) []:=have k1:=fk 1 (bA c.sk 1 12) rfl;FV.fi func57 ([k1.o]++rT 5) (B7 (cA h0) (gc k1 gn))
section
variable{c:KC.Cup}(h0:(within c.sk 1 12)=true)
include h0
theorem chk_p1(h1:(within c.ra 1 20)=false):FV Tp 57 [(.p (cupP c))] base (pI 3) []:=have k1:=fk 1 (bA c.sk 1 12) rfl;have k2:=fk 1 (bA c.ra 1 20) rfl;FV.fi func57 ([k1.o,bF,bF,bF,k2.o,bF,bF]++rT 7) (Ea (cA h1) (Ap (aH h0) (gc k2 (Aq (aH h0) (gc k1 gn)))))
theorem chk_p2(h1:(within c.ra 1 20)=true)(h2:(within c.be 1 c.ra)=false):FV Tp 57 [(.p (cupP c))] base (pI 3) []:=have k1:=fk 1 (bA c.sk 1 12) rfl;have k2:=fk 1 (bA c.ra 1 20) rfl;have k3:=fk 1 (bA c.be 1 c.ra) rfl;FV.fi func57 ([k1.o,bF,bF,bF,k2.o]++rF 7++[k3.o,bF,bF,bT]) (gc (cA h2) (Ap (aH h1) (gc k3 (B7 (aH h1) (Ap (aH h0) (gc k2 (Aq (aH h0) (gc k1 gn))))))))
theorem chk_p3(h1:(within c.ra 1 20)=true)(h2:(within c.be 1 c.ra)=true)(h3:(within (c.pts.length:Int) 1 60)=false):FV Tp 57 [(.p (cupP c))] base (pI 2) []:=have k1:=fk 1 (bA c.sk 1 12) rfl;have k2:=fk 1 (bA c.ra 1 20) rfl;have k3:=fk 1 (bA c.be 1 c.ra) rfl;have k4:=fk 1 (bA (c.pts.length:Int) 1 60) rfl;FV.fi func57 ([k1.o,bF,bF,bF,k2.o]++rF 7++[k3.o,bF,bF,bF,k4.o]++rT 7) (Ea (cA h3) (gc k4 (gc (aH h2) (Ap (aH h1) (gc k3 (B7 (aH h1) (Ap (aH h0) (gc k2 (Aq (aH h0) (gc k1 gn))))))))))
end
section
variable{c:KC.Cup}(h0:(within c.sk 1 12)=true)(h1:(within c.ra 1 20)=true)(h2:(within c.be 1 c.ra)=true)(h3:(within (c.pts.length:Int) 1 60)=true)
include h0 h1 h2 h3
theorem chk_p4(h4:c.ra<(c.done.length:Int)):FV Tp 57 [(.p (cupP c))] base (pI 2) []:=have k1:=fk 1 (bA c.sk 1 12) rfl;have k2:=fk 1 (bA c.ra 1 20) rfl;have k3:=fk 1 (bA c.be 1 c.ra) rfl;have k4:=fk 1 (bA (c.pts.length:Int) 1 60) rfl;FV.fi func57 ([k1.o,bF,bF,bF,k2.o]++rF 7++[k3.o,bF,bF,bF,k4.o]++rF 7++rT 6) (Ho (bD h4) (Ea (aH h3) (gc k4 (gc (aH h2) (Ap (aH h1) (gc k3 (B7 (aH h1) (Ap (aH h0) (gc k2 (Aq (aH h0) (gc k1 gn)))))))))))
theorem chk_p5(h4:(c.done.length:Int)≤c.ra)(h5:small c.done.length)(h6:(c.done.all fun x=>(x.length:Int) == c.sk)=false):FV Tp 57 [(.p (cupP c))] base (pI 2) []:=have k1:=fk 1 (bA c.sk 1 12) rfl;have k2:=fk 1 (bA c.ra 1 20) rfl;have k3:=fk 1 (bA c.be 1 c.ra) rfl;have k4:=fk 1 (bA (c.pts.length:Int) 1 60) rfl;have k5:=mq [0] 1 (lX c.done c.sk c.ra c.be c.pts c.done h5);FV.fi func57 ([k1.o,bF,bF,bF,k2.o]++rF 7++[k3.o,bF,bF,bF,k4.o]++rF 11++[k5.o,bF,bF,bT]) (gc (cA h6) (Ap (aQ h4) (gc k5 (Bf (aQ h4) (Ea (aH h3) (gc k4 (gc (aH h2) (Ap (aH h1) (gc k3 (B7 (aH h1) (Ap (aH h0) (gc k2 (Aq (aH h0) (gc k1 gn))))))))))))))
theorem chk_p6(h4:(c.done.length:Int)≤c.ra)(h5:small c.done.length)(h6:(c.done.all fun x=>(x.length:Int) == c.sk)=true)(h7:small c.pts.length)(h8:(c.pts.all fun x=>within x 0 1000)=false):FV Tp 57 [(.p (cupP c))] base (pI 3) []:=have k1:=fk 1 (bA c.sk 1 12) rfl;have k2:=fk 1 (bA c.ra 1 20) rfl;have k3:=fk 1 (bA c.be 1 c.ra) rfl;have k4:=fk 1 (bA (c.pts.length:Int) 1 60) rfl;have k5:=mq [0] 1 (lX c.done c.sk c.ra c.be c.pts c.done h5);have k6:=fk 1 (oN c.pts h7) rfl;FV.fi func57 ([k1.o,bF,bF,bF,k2.o]++rF 7++[k3.o,bF,bF,bF,k4.o]++rF 11++[k5.o,bF,bF,bF,k6.o]++rT 5) (B7 (cA h8) (gc k6 (gc (aH h6) (Ap (aQ h4) (gc k5 (Bf (aQ h4) (Ea (aH h3) (gc k4 (gc (aH h2) (Ap (aH h1) (gc k3 (B7 (aH h1) (Ap (aH h0) (gc k2 (Aq (aH h0) (gc k1 gn))))))))))))))))
end
section
variable{c:KC.Cup}(h0:(within c.sk 1 12)=true)(h1:(within c.ra 1 20)=true)(h2:(within c.be 1 c.ra)=true)(h3:(within (c.pts.length:Int) 1 60)=true)(h4:(c.done.length:Int)≤c.ra)(h5:small c.done.length)(h6:(c.done.all fun x=>(x.length:Int) == c.sk)=true)(h7:small c.pts.length)(h8:(c.pts.all fun x=>within x 0 1000)=true)(h9:∀ x∈c.done,small x.length)
include h0 h1 h2 h3 h4 h5 h6 h7 h8 h9
theorem chk_p7(A5:(c.done.all fun x=>x.all fun y=>within y 0 60)=false):FV Tp 57 [(.p (cupP c))] base (pI 3) []:=have k1:=fk 1 (bA c.sk 1 12) rfl;have k2:=fk 1 (bA c.ra 1 20) rfl;have k3:=fk 1 (bA c.be 1 c.ra) rfl;have k4:=fk 1 (bA (c.pts.length:Int) 1 60) rfl;have k5:=mq [0] 1 (lX c.done c.sk c.ra c.be c.pts c.done h5);have k6:=fk 1 (oN c.pts h7) rfl;have k7:=fk 1 (sJ c.done h5 h9) rfl;FV.fi func57 ([k1.o,bF,bF,bF,k2.o]++rF 7++[k3.o,bF,bF,bF,k4.o]++rF 11++[k5.o,bF,bF,bF,k6.o,bF,bF,bF,k7.o,bF,bF,bT]) (gc (cA A5) (Ap (aH h8) (gc k7 (Aq (aH h8) (gc k6 (gc (aH h6) (Ap (aQ h4) (gc k5 (Bf (aQ h4) (Ea (aH h3) (gc k4 (gc (aH h2) (Ap (aH h1) (gc k3 (B7 (aH h1) (Ap (aH h0) (gc k2 (Aq (aH h0) (gc k1 gn)))))))))))))))))))
theorem chk_p8(A5:(c.done.all fun x=>x.all fun y=>within y 0 60)=true)(Cb:c.pts.length≤1000)(Bu:(KC.fallsB c.pts)=false):FV Tp 57 [(.p (cupP c))] base (pI 4) []:=have k1:=fk 1 (bA c.sk 1 12) rfl;have k2:=fk 1 (bA c.ra 1 20) rfl;have k3:=fk 1 (bA c.be 1 c.ra) rfl;have k4:=fk 1 (bA (c.pts.length:Int) 1 60) rfl;have k5:=mq [0] 1 (lX c.done c.sk c.ra c.be c.pts c.done h5);have k6:=fk 1 (oN c.pts h7) rfl;have k7:=fk 1 (sJ c.done h5 h9) rfl;have k8:=fk 1 (wZ c.pts Cb) rfl;FV.fi func57 ([k1.o,bF,bF,bF,k2.o]++rF 7++[k3.o,bF,bF,bF,k4.o]++rF 11++[k5.o,bF,bF,bF,k6.o,bF,bF,bF,k7.o,bF,bF,bF,k8.o,bT]) (gc (cA Bu) (gc k8 (gc (aH A5) (Ap (aH h8) (gc k7 (Aq (aH h8) (gc k6 (gc (aH h6) (Ap (aQ h4) (gc k5 (Bf (aQ h4) (Ea (aH h3) (gc k4 (gc (aH h2) (Ap (aH h1) (gc k3 (B7 (aH h1) (Ap (aH h0) (gc k2 (Aq (aH h0) (gc k1 gn)))))))))))))))))))))
theorem chk_p9(A5:(c.done.all fun x=>x.all fun y=>within y 0 60)=true)(Cb:c.pts.length≤1000)(Bu:(KC.fallsB c.pts)=true)(Dd:∀ x∈c.done,tF x)(Dq:(c.done.any fun x=>KC.clashR x)=true):FV Tp 57 [(.p (cupP c))] base (pI 7) []:=have k1:=fk 1 (bA c.sk 1 12) rfl;have k2:=fk 1 (bA c.ra 1 20) rfl;have k3:=fk 1 (bA c.be 1 c.ra) rfl;have k4:=fk 1 (bA (c.pts.length:Int) 1 60) rfl;have k5:=mq [0] 1 (lX c.done c.sk c.ra c.be c.pts c.done h5);have k6:=fk 1 (oN c.pts h7) rfl;have k7:=fk 1 (sJ c.done h5 h9) rfl;have k8:=fk 1 (wZ c.pts Cb) rfl;have k9:=fk 1 (bBi c.done h5 Dd) rfl;FV.fi func57 ([k1.o,bF,bF,bF,k2.o]++rF 7++[k3.o,bF,bF,bF,k4.o]++rF 11++[k5.o,bF,bF,bF,k6.o,bF,bF,bF,k7.o,bF,bF,bF,k8.o,bF,k9.o,bT]) (gc Dq (gc k9 (gc (aH Bu) (gc k8 (gc (aH A5) (Ap (aH h8) (gc k7 (Aq (aH h8) (gc k6 (gc (aH h6) (Ap (aQ h4) (gc k5 (Bf (aQ h4) (Ea (aH h3) (gc k4 (gc (aH h2) (Ap (aH h1) (gc k3 (B7 (aH h1) (Ap (aH h0) (gc k2 (Aq (aH h0) (gc k1 gn)))))))))))))))))))))))
theorem bWt(A5:(c.done.all fun x=>x.all fun y=>within y 0 60)=true)(Cb:c.pts.length≤1000)(Bu:(KC.fallsB c.pts)=true)(Dd:∀ x∈c.done,tF x)(Dq:(c.done.any fun x=>KC.clashR x)=false):FV Tp 57 [(.p (cupP c))] base (pI 0) []:=have k1:=fk 1 (bA c.sk 1 12) rfl;have k2:=fk 1 (bA c.ra 1 20) rfl;have k3:=fk 1 (bA c.be 1 c.ra) rfl;have k4:=fk 1 (bA (c.pts.length:Int) 1 60) rfl;have k5:=mq [0] 1 (lX c.done c.sk c.ra c.be c.pts c.done h5);have k6:=fk 1 (oN c.pts h7) rfl;have k7:=fk 1 (sJ c.done h5 h9) rfl;have k8:=fk 1 (wZ c.pts Cb) rfl;have k9:=fk 1 (bBi c.done h5 Dd) rfl;FV.fi func57 ([k1.o,bF,bF,bF,k2.o]++rF 7++[k3.o,bF,bF,bF,k4.o]++rF 11++[k5.o,bF,bF,bF,k6.o,bF,bF,bF,k7.o,bF,bF,bF,k8.o,bF,k9.o,bF]) (gc Dq (gc k9 (gc (aH Bu) (gc k8 (gc (aH A5) (Ap (aH h8) (gc k7 (Aq (aH h8) (gc k6 (gc (aH h6) (Ap (aQ h4) (gc k5 (Bf (aQ h4) (Ea (aH h3) (gc k4 (gc (aH h2) (Ap (aH h1) (gc k3 (B7 (aH h1) (Ap (aH h0) (gc k2 (Aq (aH h0) (gc k1 gn)))))))))))))))))))))))
end
theorem cDx(n lo hi:Int):KC.wiB n lo hi=within n lo hi:=by unfold KC.wiB within;rw [Bool.decide_and]
theorem aRq(c:KC.Cup)(hS:KC.Small c){base:Nat}:FV Tp 57 [.p (cupP c)] base (pI (KC.checkP c)) []:=by
 have s1:small c.done.length:=by have:=hS.done;omega
 have s2:small c.pts.length:=by have:=hS.pts;omega
 have s3:∀ x∈c.done,small x.length:=fun x hx=>by have:=hS.rows x hx;omega
 unfold KC.checkP;simp only [cDx];cases h1:within c.sk 1 12
 ·exact chk_p0 h1
 cases h2:within c.ra 1 20
 ·exact chk_p1 h1 h2
 cases h3:within c.be 1 c.ra
 ·exact chk_p2 h1 h2 h3
 cases h4:within (c.pts.length:Int) 1 60
 ·exact chk_p3 h1 h2 h3 h4
 by_cases h5:c.ra<(c.done.length:Int)
 ·rw [decide_eq_true h5];exact chk_p4 h1 h2 h3 h4 h5
 rw [decide_eq_false h5];cases h6:c.done.all fun r=>((r.length:Int) == c.sk)
 ·exact chk_p5 h1 h2 h3 h4 (by omega) s1 h6
 cases h8:c.pts.all fun n=>within n 0 1000
 ·exact chk_p6 h1 h2 h3 h4 (by omega) s1 h6 s2 h8
 cases A5:c.done.all fun r=>r.all fun p=>within p 0 60
 ·exact chk_p7 h1 h2 h3 h4 (by omega) s1 h6 s2 h8 s3 A5
 cases Bu:KC.fallsB c.pts
 ·exact chk_p8 h1 h2 h3 h4 (by omega) s1 h6 s2 h8 s3 A5 hS.pts Bu
 have hr:∀ x∈c.done,tF x:=fun x hx=>⟨hS.rows x hx,fun y hy=>by
  have:=fL.1 (fL.1 A5 x hx) y hy;simp [within] at this
  omega⟩
 cases Dq:c.done.any KC.clashR
 ·exact bWt h1 h2 h3 h4 (by omega) s1 h6 s2 h8 s3 A5 hS.pts Bu hr Dq
 ·exact chk_p9 h1 h2 h3 h4 (by omega) s1 h6 s2 h8 s3 A5 hS.pts Bu hr Dq
end CU
end KV
end Go.Proofs
end
section
namespace Go.Proofs
open KC
namespace KV
open Tryz
variable {p x0 Ac:Int}{race:List Int}{i m s i' base:Nat}
namespace CU
noncomputable abbrev aEx:Code:=sub (cd Tryz.f120) [1,1,1,0,1,0,0]
section
variable(h0:inR (p-1))(h1:inR ((p-1)+(m:Int)))
include h0 h1
theorem cDr{c:KC.Cup}(h2:(if ((p-1)+(m:Int))<(c.pts.length:Int) then ((p-1)+(m:Int)) else (c.pts.length:Int))<p):FV Tp 174 [(.p (cupP c)),(pI p),(pI (m:Int))] base (pI 0) []:=FV.fi func174 [bT] (gc (bD h2) (gc h1 (gc h0 gn)))
theorem cDs{c:KC.Cup}{l0:List Int}(h2:p≤(if ((p-1)+(m:Int))<(c.pts.length:Int) then ((p-1)+(m:Int)) else (c.pts.length:Int)))(h3:0≤(p-1)∧(p-1)≤(if ((p-1)+(m:Int))<(c.pts.length:Int) then ((p-1)+(m:Int)) else (c.pts.length:Int))∧(if ((p-1)+(m:Int))<(c.pts.length:Int) then ((p-1)+(m:Int)) else (c.pts.length:Int))≤(c.pts.length:Int)∧(c.pts.map aA).length=c.pts.length*1)(h4:((if ((p-1)+(m:Int))<(c.pts.length:Int) then ((p-1)+(m:Int)) else (c.pts.length:Int)).toNat-(p-1).toNat)=l0.length)(h5:(((c.pts.map aA).drop ((p-1).toNat*1)).take (((if ((p-1)+(m:Int))<(c.pts.length:Int) then ((p-1)+(m:Int)) else (c.pts.length:Int)).toNat-(p-1).toNat)*1))=l0.map aA)(h6:small l0.length)(h7:∀ k,inR (l0.take k).sum):FV Tp 174 [(.p (cupP c)),(pI p),(pI (m:Int))] base (pI l0.sum) []:=FV.fi func174 [bF,.c (pI l0.sum) []] (gt (FC Tp 119 [(.p (.sl ((if ((p-1)+(m:Int))<(c.pts.length:Int) then ((p-1)+(m:Int)) else (c.pts.length:Int)).toNat-(p-1).toNat) (((c.pts.map aA).drop ((p-1).toNat*1)).take (((if ((p-1)+(m:Int))<(c.pts.length:Int) then ((p-1)+(m:Int)) else (c.pts.length:Int)).toNat-(p-1).toNat)*1))))] [] 1 (pI l0.sum) []) (FV.fc (by rw [show ((.sl ((if ((p-1)+(m:Int))<(c.pts.length:Int) then ((p-1)+(m:Int)) else (c.pts.length:Int)).toNat-(p-1).toNat) (((c.pts.map aA).drop ((p-1).toNat*1)).take (((if ((p-1)+(m:Int))<(c.pts.length:Int) then ((p-1)+(m:Int)) else (c.pts.length:Int)).toNat-(p-1).toNat)*1))):PV)=aC l0 from lQ h4 h5];exact (aXq l0 h6 h7)) rfl) (gc h3 (gc h0 (gc (aQ h2) (gc h1 (gc h0 gn))))))
end
theorem bQe(c:KC.Cup)(p:Int)(m:Nat)(hl:c.pts.length≤1000)(hr:∀ x∈c.pts,0≤x∧x≤1000)(hp:1≤p∧p≤1000)(hm:m≤1000){base:Nat}:FV Tp 174 [.p (cupP c),.p (aA p),.p (aA (m:Int))] base (pI (KC.worthM c.pts p.toNat m)) []:=by
 have b1:inR (p-1):=by show _∧_;omega
 have b2:inR (p-1+(m:Int)):=by show _∧_;omega
 have e1:(p-1).toNat=p.toNat-1:=by omega
 by_cases h:p≤(if p-1+(m:Int)<(c.pts.length:Int) then p-1+(m:Int) else (c.pts.length:Int))
 ·have ll:((c.pts.drop (p.toNat-1)).take m).length=min m (c.pts.length-(p.toNat-1)):=by simp
  have hb:∀ x∈(c.pts.drop (p.toNat-1)).take m,0≤x∧x≤1000:=fun x hx=>hr x (List.mem_of_mem_drop (List.mem_of_mem_take hx))
  refine cDs (l0:=(c.pts.drop (p.toNat-1)).take m) b1 b2 h ⟨by omega,by split <;> omega,by split <;> omega,by simp⟩ (by rw [ll];split <;> omega) ?_ (by rw [ll];omega) (fun k => ?_)
  ·rw [Nat.mul_one,Nat.mul_one,e1,← List.map_drop,← List.map_take]
   congr 1
   split
   ·congr 1;omega
   ·rw [List.take_of_length_le (by simp <;> omega),List.take_of_length_le (by simp <;> omega)]
  ·have:=KC.sum_bd (((c.pts.drop (p.toNat-1)).take m).take k) (fun x hx=>hb x (List.mem_of_mem_take hx))
   have hk:(((c.pts.drop (p.toNat-1)).take m).take k).length≤1000:=by rw [kV];omega
   show _∧_;omega
 ·rw [KC.worthM_none c.pts p.toNat m (by omega) (by split at h <;> omega)]
  exact cDr b1 b2 (by omega)
def nO(c:KC.Cup)(race:List Int)(x0:Int)(i m:Nat):St:=⟨fr 35 [(3,(.ptr 0 0)),(6,(pI 0)),(7,(pI x0)),(8,(pI (m:Int))),(17,(.p (aC race))),(18,(pI (race.length:Int))),(19,(pI (i:Int)))],[some (.box 34 [(pI c.sk),(pI c.ra),(pI c.be),(.p (aC c.pts)),(.p (aR c.done))])]⟩
theorem cDt{c:KC.Cup}(h0:race[s]? = some x0)(h1:x0=0):FV Tp 120 [(.p (cupP c)),(.p (aC race)),(pI (s:Int))] base (pI 0) []:=FV.fi func120 [.x (aA x0),bT] (gc (cF h1) (gc (atm aA h0) (gc (ixn aA h0) gn)))
theorem cDu{c:KC.Cup}{Ij J4:Nat}{r0:Int}(h0:race[s]? = some x0)(h1:x0≠0)(Bo:aE Tp 0 aEx (nO c race x0 0 0) (.exit 0) (nO c race x0 Ij J4))(h3:c.pts.length≤1000)(h4:∀ x∈c.pts,0≤x∧x≤1000)(h5:1≤x0∧x0≤1000)(h6:J4≤1000)(h7:(J4:Int)≠0)(h8:inR ((KC.worthM c.pts x0.toNat J4).tdiv (J4:Int)))(Ak:r0=((KC.worthM c.pts x0.toNat J4).tdiv (J4:Int))):FV Tp 120 [(.p (cupP c)),(.p (aC race)),(pI (s:Int))] base (pI r0) []:=by
 subst Ak;have k1:=fk 1 (bQe c x0 J4 h3 h4 h5 h6) rfl;exact FV.fi func120 [.x (aA x0),bF,Bo.k 4 (gI ca [0]),k1.o] (gc h8 (gc h7 (gc k1 (gc Bo.code (gc (bK h1) (gc (atm aA h0) (gc (ixn aA h0) gn)))))))
section
variable(h0:(i:Int)<(race.length:Int))(h1:race[i]? = some Ac)
include h0 h1
theorem bIh{c:KC.Cup}{m':Nat}(h2:Ac=x0)(h3:di m)(h4:di i)(Ai:i'=(i+1))(Pk:m'=(m+1)):aB Tp 0 aEx (nO c race x0 i m) .normal (nO c race x0 i' m'):=by
 subst Ai Pk;exact aB.fi (gI ca [0]) [bT,.x (aA Ac),bT] (gc h4 (gc h3 (gc (cF h2) (gc (atm aA h1) (gc (ixn aA h1) (g0 h0))))))
theorem bIi{c:KC.Cup}(h2:Ac≠x0)(h3:di i)(Ai:i'=(i+1)):aB Tp 0 aEx (nO c race x0 i m) .normal (nO c race x0 i' m):=by
 subst Ai;exact aB.fi (gI ca [0]) [bT,.x (aA Ac),bF] (gc h3 (gc (bK h2) (gc (atm aA h1) (gc (ixn aA h1) (g0 h0)))))
end
theorem bIj{c:KC.Cup}(h0:(race.length:Int)≤(i:Int)):aB Tp 0 aEx (nO c race x0 i m) (.exit 0) (nO c race x0 i m):=aB.fi (gI ca [0]) [bF] (gc (aQ h0) gn)
theorem yR(c:KC.Cup)(hV:KC.Valid c)(race:List Int)(hrl:race.length≤1000)(hrr:∀ x∈race,0≤x∧x≤60)(s:Nat)(hs:s<race.length){base:Nat}:FV Tp 120 [.p (cupP c),.p (aC race),.p (aA (s:Int))] base (pI (KC.scoreM c.pts race s)) []:=by
 have hx:race[s]? = some race[s]:=An hs;have hg:race.getD s 0=race[s]:=by rw [Bj,hx];rfl
 have hb:=hrr _ (eE hs);unfold KC.scoreM;rw [hg]
 by_cases h0:race[s]=0
 ·rw [if_pos h0];exact cDt hx h0
 ·rw [if_neg h0]
  obtain ⟨m,hm,hL⟩:=aE.ex (P:=Tp) (k:=0) (b:=aEx) (e := .exit 0) (fun i (m:Nat)=>nO c race race[s] i m) (fun m=>nO c race race[s] race.length m) (fun i m=>m=(race.take i).count race[s]) (by simp) race.length
   (fun i m hi hm=>by
    have G4:race[i]? = some race[i]:=An hi;have hle:m≤i:=by rw [hm];exact jY List.count_le_length (by rw [kV];omega)
    have hc:=KC.count_snoc race race[s] i hi
    by_cases he:race[i]=race[s]
    ·exact ⟨m+1,by rw [hc,if_pos he,hm],bIh (by omega) G4 he (aM (by omega)) (aM (by omega)) rfl rfl⟩
    ·exact ⟨m,by rw [hc,if_neg he,hm];rfl,bIi (by omega) G4 he (aM (by omega)) rfl⟩)
   (fun m _=>bIj (by omega)) (acc:=0) (by simp)
  rw [List.take_length] at hm
  have h1:1≤m:=by rw [hm];exact List.count_pos_iff.2 (eE hs)
  have h2:m≤1000:=by rw [hm];exact jY List.count_le_length hrl
  have hw:=KC.worthM_bd c.pts race[s].toNat m hV.pts;have e:(KC.worthM c.pts race[s].toNat m).tdiv (m:Int)=KC.worthM c.pts race[s].toNat m / (m:Int):=Int.tdiv_eq_ediv_of_nonneg hw.1;have q1:0≤KC.worthM c.pts race[s].toNat m / (m:Int):=Int.ediv_nonneg hw.1 (by omega)
  have q2:KC.worthM c.pts race[s].toNat m / (m:Int)≤KC.worthM c.pts race[s].toNat m:=Int.ediv_le_self _ hw.1;have hp:=hV.pt2;exact cDu hx h0 hL (by omega) hV.pts (by omega) h2 (by omega) (by rw [e];show _∧_;omega) (by rw [e,hm])
end CU
end KV
end Go.Proofs
end
section
namespace Go.Proofs
open KC
namespace KV
open Tryz
variable {j Ao Ax:Int}{L M l:List Int}{i s Ar:Nat}
namespace CU
noncomputable abbrev yQ:Code:=sub (cd Tryz.f186) [1,0,0]
noncomputable abbrev aEw:Code:=sub (cd Tryz.f186) [1,0,0,1,0,0,1,0,0]
def wY(c:KC.Cup)(x:Int):Prop:=0≤x∧x.toNat<c.done.length
theorem cDm{c:KC.Cup}{x y:Int}{x0 x1:List Int}{r0:Int}(h0:c.done[y.toNat]? = some x0)(h1:0≤y)(h2:KC.Valid c)(h3:x0.length≤1000)(h4:∀ x∈x0,0≤x∧x≤60)(h5:s<x0.length)(h6:c.done[x.toNat]? = some x1)(h7:0≤x)(h8:x1.length≤1000)(h9:∀ x∈x1,0≤x∧x≤60)(A5:s<x1.length)(Ak:r0=(cmpI (KC.scoreM c.pts x0 s) (KC.scoreM c.pts x1 s))):FMM Tp 173 [(pI x),(pI y),(.ptr 0 0),(.ptr 1 0)] [some (.box 98 [(pI c.sk),(pI c.ra),(pI c.be),(.p (aC c.pts)),(.p (aR c.done))]),some (.box 3 [(pI (s:Int))])] (pI r0) [some (.box 98 [(pI c.sk),(pI c.ra),(pI c.be),(.p (aC c.pts)),(.p (aR c.done))]),some (.box 3 [(pI (s:Int))])]:=by
 subst Ak;have k1:=fk 2 (yR c h2 x0 h3 h4 s h5) rfl;have k2:=fk 10 (yR c h2 x1 h8 h9 s A5) rfl;have k3:=fk 18 (cmp_ok (KC.scoreM c.pts x0 s) (KC.scoreM c.pts x1 s)) rfl;exact FMM.fi 2 gE func173 [.x (aC x0),k1.o,.x (aC x1),k2.o,k3.o] (gc k3 (gc k2 (gt ((c.done.map aC)[(x.toNat*1)]? = some (aC x1)) (cE (i:=x.toNat) h6) (gc (gQ (g:=aC) h7 h6) (gc k1 (gt ((c.done.map aC)[(y.toNat*1)]? = some (aC x0)) (cE (i:=y.toNat) h0) (gc (gQ (g:=aC) h1 h0) gn)))))))
theorem bQc(c:KC.Cup)(s:Nat)(x y:Int)(hV:KC.Valid c)(hs:(s:Int)<c.sk)(hx:wY c x)(hy:wY c y):FMM Tp 173 [.p (aA x),.p (aA y),.ptr 0 0,.ptr 1 0] [some (.box 98 [(pI c.sk),(pI c.ra),(pI c.be),(.p (aC c.pts)),(.p (aR c.done))]),some (.box 3 [(pI (s:Int))])] (pI (KC.cntCmp c s x y)) [some (.box 98 [(pI c.sk),(pI c.ra),(pI c.be),(.p (aC c.pts)),(.p (aR c.done))]),some (.box 3 [(pI (s:Int))])]:=by
 obtain ⟨rx,G4⟩:∃ r,c.done[x.toNat]? = some r:=⟨_,An hx.2⟩;obtain ⟨ry,Qr⟩:∃ r,c.done[y.toNat]? = some r:=⟨_,An hy.2⟩;have mx:=Br G4;have my:=Br Qr;have lx:=hV.len _ mx;have ly:=hV.len _ my;have:=hV.sk2;have gx:c.done.getD x.toNat []=rx:=by rw [Bj,G4];rfl
 have gy:c.done.getD y.toNat []=ry:=by rw [Bj,Qr];rfl
 exact cDm Qr hy.1 hV (by omega) (hV.rows _ my) (by omega) G4 hx.1 (by omega) (hV.rows _ mx) (by omega) (by unfold KC.cntCmp KC.scoreAt;rw [gx,gy];rfl)
abbrev ae(c:KC.Cup)(s Ln:Nat)(Lc:List PV):Mem:=[some (.row 3 Ln Lc),some (.box 98 [(pI c.sk),(pI c.ra),(pI c.be),(.p (aC c.pts)),(.p (aR c.done))]),some (.box 3 [(pI (s:Int))])]
def rP(c:KC.Cup)(s:Nat)(l:List Int)(i Ln:Nat)(Lc:List PV):St:=⟨fr 53 [(0,(.own 0)),(1,(pI 0)),(2,(pI (l.length:Int))),(3,(.fn 173 [] [(.ptr 1 0),(.ptr 2 0)])),(8,(pI (i:Int)))],(ae c s Ln Lc)⟩
theorem bQd{c:KC.Cup}{L'1:List Int}(hl0:aE Tp 3 yQ (rP c s l 1 l.length (l.map aA)) (.exit 0) (rP c s l Ar L'1.length (L'1.map aA))):FMM Tp 186 [(.own 0),(pI 0),(pI (l.length:Int)),(.fn 173 [] [(.ptr 1 0),(.ptr 2 0)])] [some (.row 3 l.length (l.map aA)),some (.box 98 [(pI c.sk),(pI c.ra),(pI c.be),(.p (aC c.pts)),(.p (aR c.done))]),some (.box 3 [(pI (s:Int))])] (.tup []) [some (.row 3 L'1.length (L'1.map aA)),some (.box 98 [(pI c.sk),(pI c.ra),(pI c.be),(.p (aC c.pts)),(.p (aR c.done))]),some (.box 3 [(pI (s:Int))])]:=FMM.fi 3 gE func186 [hl0.k 3 (gZ dh)] (gc hl0.code (gt (inR 1) (by show _∧_;omega) gn))
def nN(c:KC.Cup)(s:Nat)(l:List Int)(i:Nat)(j:Int)(Mn:Nat)(Mc:List PV):St:=⟨fr 53 [(0,(.own 0)),(1,(pI 0)),(2,(pI (l.length:Int))),(3,(.fn 173 [] [(.ptr 1 0),(.ptr 2 0)])),(8,(pI (i:Int))),(9,(pI j)),(12,(pI (i:Int))),(13,(pI (l.length:Int))),(14,(pB (decide ((i:Int)<(l.length:Int))))),(17,(pI (i:Int)))],[some (.row 3 Mn Mc),some (.box 98 [(pI c.sk),(pI c.ra),(pI c.be),(.p (aC c.pts)),(.p (aR c.done))]),some (.box 3 [(pI (s:Int))])]⟩
theorem bIc{c:KC.Cup}{Dy:Int}{M'101:List Int}{i':Nat}{L':List Int}(h0:(i:Int)<(l.length:Int))(hl1:aE Tp 3 aEw (nN c s l i (i:Int) L.length (L.map aA)) (.exit 2) (nN c s l i Dy M'101.length (M'101.map aA)))(h2:di i)(Ai:i'=(i+1))(Cm:L'.length=M'101.length)(Cn:L'.map aA=(M'101.map aA)):aB Tp 3 yQ (rP c s l i L.length (L.map aA)) .normal (rP c s l i' L'.length (L'.map aA)):=by
 subst Ai;rw [Cm,Cn];exact aB.fi (gZ dh) [bT,hl1.k 5 (gZ cf)] (gc h2 (gc hl1.code (g0 h0)))
theorem aIy{c:KC.Cup}(h0:(l.length:Int)≤(i:Int)):aB Tp 3 yQ (rP c s l i L.length (L.map aA)) (.exit 0) (rP c s l i L.length (L.map aA)):=aB.fi (gZ dh) [bF] (gc (aQ h0) gn)
section
variable{c:KC.Cup}(h0:(0:Int)<j)(h1:M[j.toNat]? = some Ao)(h2:0≤j)(h3:inR (j-1))(h4:M[(j-1).toNat]? = some Ax)(h5:0≤(j-1))(h6:KC.Valid c)(h7:(s:Int)<c.sk)(h8:wY c Ao)(h9:wY c Ax)
include h0 h1 h2 h3 h4 h5 h6 h7 h8 h9
theorem bId{j':Int}{M':List Int}(A5:(KC.cntCmp c s Ao Ax)<0)(Cb:(j.toNat*1)<(M.map aA).length)(Bu:0≤(j-1)∧(j-1)<(M.length:Int))(Dd:((j-1).toNat*1)<((M.map aA).set (j.toNat*1) (aA Ax)).length)(C6:j'=(j-1))(Eo:M'.length=M.length)(Ep:M'.map aA=(((M.map aA).set (j.toNat*1) (aA Ax)).set ((j-1).toNat*1) (aA Ao))):aB Tp 3 aEw (nN c s l i j M.length (M.map aA)) .normal (nN c s l i j' M'.length (M'.map aA)):=by
 subst C6;have k1:=mq [1,2] 3 (bQc c s Ao Ax h6 h7 h8 h9);rw [Eo,Ep];exact aB.fi (gZ cf) (rT 5++[.x (aA Ao)]++rT 5++[.x (aA Ax),bT,k1.o,bT,bT,bT,.x (aA Ax),.x (aA Ao)]) (gc h3 (gc Dd (gc Bu (gc Cb (gc (aZ (i:=j) h2 h1) (gt ((M.map aA)[(j.toNat*1)]? = some (aA Ao)) (cE (i:=j.toNat) h1) (gc (aZ (i:=j) h2 h1) (gt ((M.map aA)[((j-1).toNat*1)]? = some (aA Ax)) (cE (i:=(j-1).toNat) h4) (gc (aZ (i:=(j-1)) h5 h4) (Ap h3 (gc (bD A5) (Ap (bD h0) (gc k1 (gc (bD h0) (gt ((M.map aA)[((j-1).toNat*1)]? = some (aA Ax)) (cE (i:=(j-1).toNat) h4) (gc (bD h0) (gc (aZ (i:=(j-1)) h5 h4) (gc (bD h0) (gc h3 (Aq (bD h0) (gt ((M.map aA)[(j.toNat*1)]? = some (aA Ao)) (cE (i:=j.toNat) h1) (gc (bD h0) (gc (aZ (i:=j) h2 h1) (Aq (bD h0) (g0 h0)))))))))))))))))))))))))
theorem bIe(A5:(0:Int)≤(KC.cntCmp c s Ao Ax)):aB Tp 3 aEw (nN c s l i j M.length (M.map aA)) (.exit 2) (nN c s l i j M.length (M.map aA)):=have k1:=mq [1,2] 3 (bQc c s Ao Ax h6 h7 h8 h9);aB.fi (gZ cf) (rT 5++[.x (aA Ao)]++rT 5++[.x (aA Ax),bT,k1.o,bT,bT,bF]) (gc (aQ A5) (Ap (bD h0) (gc k1 (gc (bD h0) (gt ((M.map aA)[((j-1).toNat*1)]? = some (aA Ax)) (cE (i:=(j-1).toNat) h4) (gc (bD h0) (gc (aZ (i:=(j-1)) h5 h4) (gc (bD h0) (gc h3 (Aq (bD h0) (gt ((M.map aA)[(j.toNat*1)]? = some (aA Ao)) (cE (i:=j.toNat) h1) (gc (bD h0) (gc (aZ (i:=j) h2 h1) (Aq (bD h0) (g0 h0)))))))))))))))
end
theorem bIf{c:KC.Cup}(h0:j≤0):aB Tp 3 aEw (nN c s l i j M.length (M.map aA)) (.exit 2) (nN c s l i j M.length (M.map aA)):=aB.fi (gZ cf) (rF 13) (Fy (aQ h0) (B7 (aQ h0) gn))
def aMh(c:KC.Cup)(s:Nat)(l:List Int)(i:Nat):St:=⟨fr 53 [(0,(.own 0)),(1,(pI (l.length:Int))),(2,(pI (l.length:Int))),(3,(.fn 173 [] [(.ptr 1 0),(.ptr 2 0)])),(8,(pI (i:Int)))],[some (.row 3 l.length (l.map aA)),some (.box 98 [(pI c.sk),(pI c.ra),(pI c.be),(.p (aC c.pts)),(.p (aR c.done))]),some (.box 3 [(pI (s:Int))])]⟩
theorem cDn{c:KC.Cup}(h0:inR (((l.length+1):Nat):Int))(hl1:aE Tp 3 yQ (aMh c s l (l.length+1)) (.exit 0) (aMh c s l Ar)):FMM Tp 186 [(.own 0),(pI (l.length:Int)),(pI (l.length:Int)),(.fn 173 [] [(.ptr 1 0),(.ptr 2 0)])] [some (.row 3 l.length (l.map aA)),some (.box 98 [(pI c.sk),(pI c.ra),(pI c.be),(.p (aC c.pts)),(.p (aR c.done))]),some (.box 3 [(pI (s:Int))])] (.tup []) [some (.row 3 l.length (l.map aA)),some (.box 98 [(pI c.sk),(pI c.ra),(pI c.be),(.p (aC c.pts)),(.p (aR c.done))]),some (.box 3 [(pI (s:Int))])]:=FMM.fi 3 gE func186 [hl1.k 3 (gZ dh)] (gc hl1.code (gc h0 gn))
theorem bIg{c:KC.Cup}(h0:(l.length:Int)≤(i:Int)):aB Tp 3 yQ (aMh c s l i) (.exit 0) (aMh c s l i):=aB.fi (gZ dh) [bF] (gc (aQ h0) gn)
abbrev ltS(c:KC.Cup)(s:Nat):Int→Int→Bool:=KC.ltC (KC.cntCmp c s)
theorem cDo(c:KC.Cup)(s:Nat)(l:List Int)(i:Nat)(A R:List Int)(x:Int)(hV:KC.Valid c)(hs:(s:Int)<c.sk)(hA:A.length<1000)(hi:i=A.length)(hk:∀ y∈A++x::R,wY c y):∀ m,m≤A.length→(∀ t (h:t<A.length),m≤t→ltS c s x A[t]=true) →
  aE Tp 3 aEw (nN c s l i (m:Int) (KC.mv A x m R).length ((KC.mv A x m R).map aA)) (.exit 2) (nN c s l i (KC.insPos (ltS c s) x A:Int) (KC.ins (ltS c s) A x++R).length ((KC.ins (ltS c s) A x++R).map aA)):=by
 intro m
 induction m with
 | zero =>
  intro _ hlt;have e:=KC.insPos_eq (ltS c s) x A 0 (Nat.zero_le _) hlt (.inl rfl);rw [← KC.mv_ins,e];exact .exit (bIf (by simp)) (by simp)
 | succ m ih =>
  intro hm hlt;have hy:=An (show m<A.length by omega)
  have kx:wY c x:=hk x (by simp)
  have ky:wY c A[m]:=hk _ (gD _ (eE _));generalize A[m]=y at hy ky
  have e1:((m+1:Nat):Int).toNat=m+1:=by omega
  have e2:(((m+1:Nat):Int)-1).toNat=m:=by omega
  have hl:=KC.mv_length A x (m+1) R hm;have g1:(KC.mv A x (m+1) R)[m+1]? = some x:=by rw [KC.mv_get A _ _ R hm];simp
  have g2:(KC.mv A x (m+1) R)[m]? = some y:=by rw [KC.mv_get A _ _ R hm,if_pos (by omega)];exact hy
  by_cases hc:KC.cntCmp c s x y<0
  ·have hsw:=KC.mv_swap A x (m+1) R hm (by omega) y (by simpa using hy)
   rw [Nat.add_sub_cancel] at hsw
   have K4:m+1<(KC.mv A x (m+1) R).length:=aY g1;refine .step (bId (j:=((m+1:Nat):Int)) (j':=(m:Int)) (M':=KC.mv A x m R) (by omega) (by rw [e1];exact g1) (by omega) (by show _∧_;omega) (by rw [e2];exact g2) (by omega) hV hs kx ky hc (by rw [e1,Bt];omega) ⟨by omega,by omega⟩ (by rw [e2,lP,Bt];omega) (by omega) (by rw [hl,KC.mv_length A x m R (by omega)]) (by rw [e1,e2,Nat.mul_one,Nat.mul_one,← List.map_set,← List.map_set,hsw])) (ih (by omega) (fun t ht h1 => ?_))
   by_cases h2:t=m
   ·subst h2
    have h3:=hy;rw [An ht,Option.some.injEq] at h3
    rw [h3];simpa [KC.ltC] using hc
   ·exact hlt t ht (by omega)
  ·have e:=KC.insPos_eq (ltS c s) x A (m+1) hm hlt (.inr ⟨y,by simpa using hy,by simpa [KC.ltC] using hc⟩)
   rw [← KC.mv_ins,e];exact .exit (bIe (by omega) (by rw [e1];exact g1) (by omega) (by show _∧_;omega) (by rw [e2];exact g2) (by omega) hV hs kx ky (by omega)) (by simp)
theorem cDp(c:KC.Cup)(s:Nat)(l:List Int)(hV:KC.Valid c)(hs:(s:Int)<c.sk)(hn:l.length<1000)(hk:∀ y∈l,wY c y):FMM Tp 186 [.own 0,.p (aA 0),.p (aA (l.length:Int)),(.fn 173 [] [(.ptr 1 0),(.ptr 2 0)])] [some (.row 3 l.length (l.map aA)),some (.box 98 [(pI c.sk),(pI c.ra),(pI c.be),(.p (aC c.pts)),(.p (aR c.done))]),some (.box 3 [(pI (s:Int))])] (.tup []) [some (.row 3 ((KC.isort (ltS c s) l).length) ((KC.isort (ltS c s) l).map aA)),some (.box 98 [(pI c.sk),(pI c.ra),(pI c.be),(.p (aC c.pts)),(.p (aR c.done))]),some (.box 3 [(pI (s:Int))])]:=by
 have key:∀ d i,i+d=l.length→1≤i→aE Tp 3 yQ (rP c s l i (KC.isort (ltS c s) (l.take i)++l.drop i).length ((KC.isort (ltS c s) (l.take i)++l.drop i).map aA)) (.exit 0) (rP c s l l.length (KC.isort (ltS c s) l).length ((KC.isort (ltS c s) l).map aA)):=by
  intro d
  induction d with
  | zero =>
   intro i hi _;obtain rfl:i=l.length:=by omega
   rw [List.take_length,List.drop_length,List.append_nil];exact .exit (aIy (by omega)) (by simp)
  | succ d ih =>
   intro i hi h1;have hlt:i<l.length:=by omega
   have hAl:(KC.isort (ltS c s) (l.take i)).length=i:=by rw [KC.isort_length,kV];omega
   have hdr:l.drop i=l[i]::l.drop (i+1):=aFy hlt;have hin:=cDo c s l i (KC.isort (ltS c s) (l.take i)) (l.drop (i+1)) l[i] hV hs (by omega) hAl.symm (by
    intro y hy
    rcases dY.1 hy with h | h
    ·exact hk y (List.mem_of_mem_take ((KC.isort_mem (ltS c s) _ y).1 h))
    ·rcases eO.1 h with rfl | h
     ·exact hk _ (eE hlt)
     ·exact hk y (List.mem_of_mem_drop h)) i (by omega) (fun t ht h2=>by omega)
   have hmv:KC.mv (KC.isort (ltS c s) (l.take i)) l[i] i (l.drop (i+1))=KC.isort (ltS c s) (l.take i)++l.drop i:=by
    have:=KC.mv_end (KC.isort (ltS c s) (l.take i)) l[i] (l.drop (i+1));rw [hAl] at this;rw [this,hdr]
   have hsn:=KC.isort_snoc (ltS c s) l i hlt;rw [hmv,← hsn] at hin
   exact .step (bIc (by omega) hin (by show _∧_;omega) rfl rfl rfl) (ih (i+1) (by omega) (by omega))
 rcases Nat.eq_zero_or_pos l.length with h0 | hp
 ·have:l=[]:=sO h0
  subst this;exact bQd (aE.exit (aIy (l:=[]) (L:=[]) (i:=1) (by simp)) (by simp))
 ·have:=key (l.length-1) 1 (by omega) (by omega)
  have e1:KC.isort (ltS c s) (l.take 1)++l.drop 1=l:=by
   cases l with
   | nil=>simp at hp
   | cons x r=>simp [KC.isort,KC.ins,KC.insPos]
  rw [e1] at this
  exact bQd this
theorem cDq(c:KC.Cup)(s:Nat)(l:List Int)(hn:l.length<1000):FMM Tp 186 [.own 0,.p (aA (l.length:Int)),.p (aA (l.length:Int)),(.fn 173 [] [(.ptr 1 0),(.ptr 2 0)])] [some (.row 3 l.length (l.map aA)),some (.box 98 [(pI c.sk),(pI c.ra),(pI c.be),(.p (aC c.pts)),(.p (aR c.done))]),some (.box 3 [(pI (s:Int))])] (.tup []) [some (.row 3 l.length (l.map aA)),some (.box 98 [(pI c.sk),(pI c.ra),(pI c.be),(.p (aC c.pts)),(.p (aR c.done))]),some (.box 3 [(pI (s:Int))])] :=
 cDn (by show _∧_;omega) (.exit (bIg (by omega)) (by simp))
end CU
end KV
end Go.Proofs
end
section
namespace Go.Proofs
open Go.RowKit Go.Lib Go.Sort
namespace KV
open Tryz
namespace CU
theorem bJj{α:Type}{xs:Array α}{i:Nat}{f g:α→α}(h:∀ x,xs[i]? = some x→f x=g x):xs.modify i f=xs.modify i g:=by
 apply Array.ext_getElem?;intro j;rw [Array.getElem?_modify,Array.getElem?_modify]
 split
 ·rename_i e;subst e
  cases hx:xs[i]? with
  | none=>rfl
  | some x=>simp [h x hx]
 ·rfl
theorem cEf{w:World}{g k q:Nat}{cur:Array Value}{zs ys:List Int}(hg:w.heap[g]? = some (.cells cur 3 (0,0)))(ht:cur.toList.take zs.length=zs.map (Value.int .i64))(hk:k≤zs.length)(hy:ys.length=k) :
  putRow (Value.int .i64) (Sort.ahead w q) g 0 ys.toArray=putRow (Value.int .i64) (Sort.ahead w q) g 0 (ys++zs.drop k).toArray:=by
 unfold putRow mapBlock
 congr 1
 refine bJj fun x hx => ?_
 have G4:w.heap[g]? = some x:=hx;rw [hg] at G4
 cases G4;refine congrArg (fun c=>Obj.cells c 3 (0,0)) ?_
 unfold putCells;apply Array.ext_getElem?;intro i;rw [Array.getElem?_mapIdx,Array.getElem?_mapIdx];cases hi:cur[i]? with
 | none=>rfl
 | some v =>
  simp only [Option.map_some]
  by_cases h1:i<k
  ·rw [if_pos (by simp;omega),if_pos (by simp;omega)]
   congr 2
   simp [getElem!_pos,show i<ys.length by omega]
   rw [aFx (by omega),An (by omega)];rfl
  ·by_cases h2:i<zs.length
   ·rw [if_neg (by simp;omega),if_pos (by simp;omega)]
    have h3:(cur.toList.take zs.length)[i]? = (zs.map (Value.int .i64))[i]? := by rw [ht]
    rw [List.getElem?_take,if_pos h2,Array.getElem?_toList,hi,gF,An h2] at h3
    simp only [Option.map_some,Option.some.injEq] at h3
    rw [h3]
    congr 2
    simp;rw [aKl (by omega),List.getElem?_drop,hy,show k+(i-k)=i by omega,An h2];rfl
   ·rw [if_neg (by simp;omega),if_neg (by simp;omega)]
theorem bQm(l:List Int)(k:Nat)(hk:k≤l.length)(hl:l.length≤1000):FMM Tp 161 [.arr 0 0 k] [some (fA l)] (.tup []) [some (fA ((l.take k).mergeSort KC.leB++l.drop k))]:=fun C w us hus hM n=>by
 obtain ⟨u,rfl,hu⟩:=qY hus;have hlen:((l.take k).mergeSort KC.leB++l.drop k).length=l.length:=by rw [kU,bSa,kV,bMc];omega
 have zero:k=0→∀ p cap,u = .slice p 0 cap→CallsIn Fence.wide n Tp 161 #[u] w (fun e w'=>∃ u,e = .returned u∧∃ C',Fr C [some (fA l)] w C' [some (fA ((l.take k).mergeSort KC.leB++l.drop k))] w'∧aP Tp C' [some (fA ((l.take k).mergeSort KC.leB++l.drop k))] w'∧Rep C' [some (fA ((l.take k).mergeSort KC.leB++l.drop k))] w' (.tup []) u):=fun h0 p cap e=>by
  subst h0 e;refine (callsIn_wide.2 (Tryz.slices_Sort_int_none p cap w)).mono ?_;rintro e w' ⟨rfl,rfl⟩;have el:(l.take 0).mergeSort KC.leB++l.drop 0=l:=by simp
  rw [el];exact ⟨_,rfl,C,⟨rfl,rfl,rfl,dJ _,fun _ _ _=>rfl,fun _ o h=>⟨⟨o,h⟩,rfl,rfl⟩,fun _ _ _ _ _ cs h=>⟨cs,h⟩,fun _ o h o' h' hl=>by rw [h] at h';cases h';exact hl,fun i o b h hl hb => .inr ⟨i,o,h,hl,hb⟩,fun _ h=>h,fun _ h => .inl h⟩,hM,.tup [] #[] rfl (fun i h=>by simp at h)⟩
 cases hu with
 | arr _ _ _ _ h0 ha hr =>
  rcases hr _ rfl rfl with ⟨h1,p,cap,h2,_⟩ | ⟨b,cap,h1,_,_,h2⟩
  ·exact zero h1 p cap h2
  ·rcases hM.row 0 _ _ _ rfl with ⟨E1,_⟩ | ⟨b',arr,inf,Al,q1,q2,q3,q4,q5,q6,q7,q8⟩
   ·rw [h2] at E1;cases E1
   ·rw [h2] at Al;cases Al
    subst h1;obtain ⟨i,hi,hs⟩:=Gb;rw [hi] at q2;cases q2
    have hO:Rep C [some (fA l)] w (.own 0) (.slice (some ⟨b,0,none⟩) l.length (C.κ 0)) := .own 0 _ rfl ⟨_,rfl⟩ fun ty m cs hx=>by cases hx;exact .inr ⟨b,rfl,h2⟩
    have hown:KL.OwnI w 0 _ l:=aWf hM rfl hO;have ht:arr.toList.take l.length=l.map (Value.int .i64):=aPt (by rw [q3,hs];omega) q7
    have htk:arr.toList.take (l.take k).length=(l.take k).map (Value.int .i64):=by
     rw [kV,Nat.min_eq_left hk,List.map_take,← ht,List.take_take,Nat.min_eq_left hk]
    have hkl:(l.take k).length=k:=by rw [kV];omega
    have hblk:=lt_of_block q1;have S:=Tryz.slices_Sort_int b 0 cap (l.take k) w (holds_of_blockI q1 htk) hblk (by omega)
    rw [hkl] at S
    refine (callsIn_wide.2 S).mono ?_;rintro e w' ⟨rfl,m,os,rfl⟩;have hms:((l.take k).mergeSort fun x y=>decide (x≤y)).length=k:=by rw [bSa];exact hkl
    have U4:KL.OwnI (grow (putRow (Value.int .i64) (Sort.ahead w m) b 0 ((l.take k).mergeSort fun x y=>decide (x≤y)).toArray) os) 0 (.slice (some ⟨b,0,none⟩) l.length (C.κ 0)) ((l.take k).mergeSort KC.leB++l.drop k):=by
     rw [cEf q1 ht hk hms];unfold KL.OwnI;rw [hlen];exact ownsRow_sortedI hlen (Nat.zero_le _) q1 q5 q6 (by rw [q3,hs])
    obtain ⟨C',f,m',_⟩:=yL (d:=false) hM hO U4 (grownBy_sortedI _) rfl (fun _=>⟨rfl,hlen⟩)
    exact ⟨_,rfl,C',f,m',.tup [] #[] rfl (fun i h=>by simp at h)⟩
end CU
end KV
end Go.Proofs
end
section
namespace Go.Proofs
open KC
namespace KV
open Tryz
variable {a b Ji J3:Int}{L l o r3:List Int}{i s:Nat}
namespace CU
noncomputable abbrev aMf:Code:=sub (cd Tryz.f118) [1,1,0,1,0,0]
noncomputable abbrev aXf:Code:=sub (cd Tryz.f140) [1,1,0,0,0]
abbrev cDi(c:KC.Cup)(s:Nat)(a b:Int)(l r:List Int):Prop:=FMM Tp 186 [.own 0,.p (aA a),.p (aA b),(.fn 173 [] [(.ptr 1 0),(.ptr 2 0)])] [some (.row 3 l.length (l.map aA)),some (.box 98 [(pI c.sk),(pI c.ra),(pI c.be),(.p (aC c.pts)),(.p (aR c.done))]),some (.box 3 [(pI (s:Int))])] (.tup []) [some (.row 3 r.length (r.map aA)),some (.box 98 [(pI c.sk),(pI c.ra),(pI c.be),(.p (aC c.pts)),(.p (aR c.done))]),some (.box 3 [(pI (s:Int))])]
def yP(c:KC.Cup)(s:Nat)(l:List Int)(a b:Int)(Ln:Nat)(Lc:List PV):St:=⟨fr 63 [(0,(.own 0)),(1,(pI (l.length:Int))),(2,(.fn 173 [] [(.ptr 1 0),(.ptr 2 0)])),(6,(pI 20)),(7,(pI a)),(8,(pI b))],(ae c s Ln Lc)⟩
def aMg(c:KC.Cup)(s:Nat)(l:List Int)(Ji J3:Int)(r3:List Int):St:=⟨fr 63 [(0,(.own 0)),(1,(pI (l.length:Int))),(2,(.fn 173 [] [(.ptr 1 0),(.ptr 2 0)])),(6,(pI 20)),(7,(pI Ji)),(8,(pI J3))],[some (.row 3 r3.length (r3.map aA)),some (.box 98 [(pI c.sk),(pI c.ra),(pI c.be),(.p (aC c.pts)),(.p (aR c.done))]),some (.box 3 [(pI (s:Int))])]⟩
theorem bQb{c:KC.Cup}{L'2:List Int}(hl0:aE Tp 3 aXf (yP c s l 0 20 l.length (l.map aA)) (.exit 0) (yP c s l Ji J3 L'2.length (L'2.map aA)))(h1:cDi c s Ji (l.length:Int) L'2 r3)(Bo:aE Tp 3 (sub (cd Tryz.f140) cz) (aMg c s l Ji J3 r3) (.exit 2) (aMg c s l Ji J3 r3)):FMM Tp 140 [(.own 0),(pI (l.length:Int)),(.fn 173 [] [(.ptr 1 0),(.ptr 2 0)])] [some (.row 3 l.length (l.map aA)),some (.box 98 [(pI c.sk),(pI c.ra),(pI c.be),(.p (aC c.pts)),(.p (aR c.done))]),some (.box 3 [(pI (s:Int))])] (.tup []) [some (.row 3 r3.length (r3.map aA)),some (.box 98 [(pI c.sk),(pI c.ra),(pI c.be),(.p (aC c.pts)),(.p (aR c.done))]),some (.box 3 [(pI (s:Int))])]:=have k1:=mq [0,1,2] 3 h1;FMM.fi 3 gE func140 [hl0.k 6 (gZ az),k1.o,Bo.k 1 (gZ df)] (gc Bo.code (gc k1 (gc hl0.code gn)))
theorem bIb{c:KC.Cup}{D2:List Int}{b':Int}{L':List Int}(h0:b≤(l.length:Int))(h1:cDi c s a b L D2)(h2:inR (b+20))(U2:b'=(b+20))(Cm:L'.length=D2.length)(Cn:L'.map aA=(D2.map aA)):aB Tp 3 aXf (yP c s l a b L.length (L.map aA)) .normal (yP c s l b b' L'.length (L'.map aA)):=by
 subst U2;have k1:=mq [0,1,2] 3 h1;rw [Cm,Cn];exact aB.fi (gZ az) [bT,k1.o] (gc h2 (gc k1 (gc (uD h0) gn)))
theorem aIw{c:KC.Cup}(h0:(l.length:Int)<b):aB Tp 3 aXf (yP c s l a b L.length (L.map aA)) (.exit 0) (yP c s l a b L.length (L.map aA)):=aB.fi (gZ az) [bF] (gc (jZ h0) gn)
theorem aIx{c:KC.Cup}(h0:(l.length:Int)≤20):aB Tp 3 (sub (cd Tryz.f140) cz) (aMg c s l Ji J3 r3) (.exit 2) (aMg c s l Ji J3 r3):=aB.fi (gZ df) [bF] (gc (aQ h0) gn)
theorem cDj(c:KC.Cup)(s:Nat)(l:List Int)(hV:KC.Valid c)(hs:(s:Int)<c.sk)(hn:l.length≤20)(hk:∀ y∈l,wY c y):FMM Tp 140 [.own 0,.p (aA (l.length:Int)),(.fn 173 [] [(.ptr 1 0),(.ptr 2 0)])] [some (.row 3 l.length (l.map aA)),some (.box 98 [(pI c.sk),(pI c.ra),(pI c.be),(.p (aC c.pts)),(.p (aR c.done))]),some (.box 3 [(pI (s:Int))])] (.tup []) [some (.row 3 ((KC.isort (ltS c s) l).length) ((KC.isort (ltS c s) l).map aA)),some (.box 98 [(pI c.sk),(pI c.ra),(pI c.be),(.p (aC c.pts)),(.p (aR c.done))]),some (.box 3 [(pI (s:Int))])]:=by
 have h1:=cDp c s l hV hs (by omega) hk
 have hl:=KC.isort_length (ltS c s) l
 by_cases h:l.length<20
 ·exact bQb (.exit (aIw (by omega)) (by simp)) h1 (.exit (aIx (by omega)) (by simp))
 ·have e:(l.length:Int)=20:=by omega
  have h2:=cDq c s (KC.isort (ltS c s) l) (by omega)
  rw [show ((KC.isort (ltS c s) l).length:Int)=(l.length:Int) by omega] at h2
  refine bQb (Ji:=20) (J3:=40) (L'2:=KC.isort (ltS c s) l) (.step (bIb (b':=40) (L':=KC.isort (ltS c s) l) (by omega) (by rw [e] at h1;exact h1) (by show _∧_;omega) rfl rfl rfl) (.exit (aIw (by omega)) (by simp))) (by
   have h3:cDi c s (l.length:Int) (l.length:Int) (KC.isort (ltS c s) l) (KC.isort (ltS c s) l):=h2;rw [e] at h3 ⊢
   exact h3) (.exit (aIx (by omega)) (by simp))
theorem cDk{c:KC.Cup}(h0:KC.Valid c)(h1:(s:Int)<c.sk)(h2:l.length≤20)(h3:∀ y∈l,wY c y):FMM Tp 73 [(.own 0),(.fn 173 [] [(.ptr 1 0),(.ptr 2 0)])] [some (.row 3 l.length (l.map aA)),some (.box 98 [(pI c.sk),(pI c.ra),(pI c.be),(.p (aC c.pts)),(.p (aR c.done))]),some (.box 3 [(pI (s:Int))])] (.tup []) [some (.row 3 ((KC.isort (ltS c s) l).length) ((KC.isort (ltS c s) l).map aA)),some (.box 98 [(pI c.sk),(pI c.ra),(pI c.be),(.p (aC c.pts)),(.p (aR c.done))]),some (.box 3 [(pI (s:Int))])]:=have k1:=mq [0,1,2] 3 (cDj c s l h0 h1 h2 h3);FMM.fi 3 gE func73 [k1.o] (gc k1 gn)
theorem cDl(c:KC.Cup)(s:Nat)(l:List Int)(hV:KC.Valid c)(hs:(s:Int)<c.sk)(hn:l.length≤20)(hk:∀ y∈l,wY c y):FMM Tp 73 [.own 0,(.fn 173 [] [(.ptr 1 0),(.ptr 2 0)])] [some (.row 3 l.length (l.map aA)),some (.box 98 [(pI c.sk),(pI c.ra),(pI c.be),(.p (aC c.pts)),(.p (aR c.done))]),some (.box 3 [(pI (s:Int))])] (.tup []) [some (.row 3 ((KC.isort (ltS c s) l).length) ((KC.isort (ltS c s) l).map aA)),some (.box 98 [(pI c.sk),(pI c.ra),(pI c.be),(.p (aC c.pts)),(.p (aR c.done))]),some (.box 3 [(pI (s:Int))])]:=cDk hV hs hn hk
def cnt_S0(c:KC.Cup)(s i on:Nat)(oc:List PV):St:=⟨fr 33 [(2,(.ptr 0 0)),(3,(.ptr 1 0)),(4,(.p cX)),(5,(.own 2)),(10,(pI (c.done.length:Int))),(11,(pI (i:Int)))],[some (.box 98 [(pI c.sk),(pI c.ra),(pI c.be),(.p (aC c.pts)),(.p (aR c.done))]),some (.box 3 [(pI (s:Int))]),some (.row 3 on oc)]⟩
theorem cnt_p0{c:KC.Cup}{Ar:Nat}{A3:List Int}{Hj:Nat}{Hk:List PV}(hl0:aE Tp 0 aMf (cnt_S0 c s 0 0 []) (.exit 0) (cnt_S0 c s Ar A3.length (A3.map aA)))(h1:KC.Valid c)(h2:(s:Int)<c.sk)(h3:A3.length≤20)(h4:∀ y∈A3,wY c y)(h5:0≤(0:Int)∧(0:Int)≤(if c.be<((KC.isort (ltS c s) A3).length:Int) then c.be else ((KC.isort (ltS c s) A3).length:Int))∧(if c.be<((KC.isort (ltS c s) A3).length:Int) then c.be else ((KC.isort (ltS c s) A3).length:Int))≤((KC.isort (ltS c s) A3).length:Int))(h6:(if c.be<((KC.isort (ltS c s) A3).length:Int) then c.be else ((KC.isort (ltS c s) A3).length:Int)).toNat≤(KC.isort (ltS c s) A3).length)(h7:(KC.isort (ltS c s) A3).length≤1000)(Gx:Hj=(if c.be<((KC.isort (ltS c s) A3).length:Int) then c.be else ((KC.isort (ltS c s) A3).length:Int)).toNat)(Gy:Hk=((((((KC.isort (ltS c s) A3).take ((if c.be<((KC.isort (ltS c s) A3).length:Int) then c.be else ((KC.isort (ltS c s) A3).length:Int)).toNat)).mergeSort KC.leB++(KC.isort (ltS c s) A3).drop ((if c.be<((KC.isort (ltS c s) A3).length:Int) then c.be else ((KC.isort (ltS c s) A3).length:Int)).toNat)).map aA).drop 0).take ((if c.be<((KC.isort (ltS c s) A3).length:Int) then c.be else ((KC.isort (ltS c s) A3).length:Int)).toNat*(((((KC.isort (ltS c s) A3).take ((if c.be<((KC.isort (ltS c s) A3).length:Int) then c.be else ((KC.isort (ltS c s) A3).length:Int)).toNat)).mergeSort KC.leB++(KC.isort (ltS c s) A3).drop ((if c.be<((KC.isort (ltS c s) A3).length:Int) then c.be else ((KC.isort (ltS c s) A3).length:Int)).toNat)).map aA).length / ((((KC.isort (ltS c s) A3).take ((if c.be<((KC.isort (ltS c s) A3).length:Int) then c.be else ((KC.isort (ltS c s) A3).length:Int)).toNat)).mergeSort KC.leB++(KC.isort (ltS c s) A3).drop ((if c.be<((KC.isort (ltS c s) A3).length:Int) then c.be else ((KC.isort (ltS c s) A3).length:Int)).toNat)).length))))){base:Nat}:FV Tp 118 [(.p (cupP c)),(pI (s:Int))] base (.p (.sl Hj Hk)) []:=by
 subst Gx Gy;have k1:=mq [2,0,1] 3 (cDl c s A3 h1 h2 h3 h4);have k2:=mq [2] 3 (bQm (KC.isort (ltS c s) A3) ((if c.be<((KC.isort (ltS c s) A3).length:Int) then c.be else ((KC.isort (ltS c s) A3).length:Int)).toNat) h6 h7);exact FV.frz (FMM.fi 0 ⟨[],[],[2],[]⟩ func118 [hl0.k 8 (gN bg [0,1,2] [(5,3)]),k1.o,k2.o] (gc k2 (gc h5 (gc k1 (gc hl0.code gn))))) (by kernel_rfl)
theorem cnt_L0_p0{c:KC.Cup}{i':Nat}{o':List Int}(h0:(i:Int)<(c.done.length:Int))(h1:[(aA (i:Int))].length=1*1∧o.length+1≤1000000)(h2:di i)(Ai:i'=(i+1))(B0:o'.length=(o.length+1))(B1:o'.map aA=((o.map aA)++[(aA (i:Int))])):aB Tp 0 aMf (cnt_S0 c s i o.length (o.map aA)) .normal (cnt_S0 c s i' o'.length (o'.map aA)):=by
 subst Ai;rw [B0,B1];exact aB.fi (gI bg [0,1,4]) [bT] (gc h2 (gc h1 (g0 h0)))
theorem cnt_L0_p1{c:KC.Cup}(h0:(c.done.length:Int)≤(i:Int)):aB Tp 0 aMf (cnt_S0 c s i o.length (o.map aA)) (.exit 0) (cnt_S0 c s i o.length (o.map aA)):=aB.fi (gI bg [0,1,2]) [bF] (gc (aQ h0) gn)
theorem aXg(c:KC.Cup)(hV:KC.Valid c)(s:Nat)(hs:(s:Int)<c.sk){base:Nat}:FV Tp 118 [.p (cupP c),.p (aA (s:Int))] base (.p (aC (KC.countedL c s))) []:=by
 have hd:=hV.dn;have Ef:=hV.ra2;have Bl:=hV.be1;have hL:=aE.times (P:=Tp) (k:=0) (b:=aMf) (e := .exit 0) (fun i (o:List Int)=>cnt_S0 c s i o.length (o.map aA)) (fun o=>cnt_S0 c s c.done.length o.length (o.map aA)) (fun o (i:Nat)=>o++[(i:Int)]) (fun i o=>o=KC.idx i) (by simp) c.done.length (a0:=[]) rfl
  (fun i o hi ho=>by
   have hol:o.length=i:=by rw [ho,KC.idx_length]
   exact ⟨by rw [ho,KC.idx_succ],cnt_L0_p0 (o':=o++[(i:Int)]) (by omega) ⟨rfl,by omega⟩ (aM (by omega)) rfl (by simp) (by simp)⟩)
  (fun o _=>cnt_L0_p1 (by omega))
 have e:∀ n:Nat,(List.range n).foldl (fun (o:List Int) (i:Nat)=>o++[(i:Int)]) []=KC.idx n:=by
  intro n
  induction n with
  | zero=>rfl
  | succ n ih=>rw [List.range_succ,vX,ih,KC.idx_succ];rfl
 rw [e] at hL
 have hS:(KC.isort (ltS c s) (KC.idx c.done.length)).length=c.done.length:=by rw [KC.isort_length,KC.idx_length]
 have hk:(if c.be<((KC.isort (ltS c s) (KC.idx c.done.length)).length:Int) then c.be else ((KC.isort (ltS c s) (KC.idx c.done.length)).length:Int)).toNat=min c.done.length c.be.toNat:=by
  rw [hS];split <;> omega
 have hcl:(KC.countedL c s).length=min c.done.length c.be.toNat:=by
  unfold KC.countedL;rw [bSa,kV];have:(KC.isort (KC.ltC (KC.cntCmp c s)) (KC.idx c.done.length)).length=c.done.length:=hS;omega
 refine cnt_p0 hL hV hs (by rw [KC.idx_length];omega) (fun y hy => ?_) ⟨by omega,by rw [hS];split <;> omega,by rw [hS];split <;> omega⟩ (by rw [hk,hS];omega) (by rw [hS];omega) (by rw [hk,hcl]) ?_
 ·obtain ⟨k,rfl,h⟩:=KC.idx_mem hy
  exact ⟨by omega,by omega⟩
 ·rw [hk]
  have hT:((KC.isort (ltS c s) (KC.idx c.done.length)).take (min c.done.length c.be.toNat)).mergeSort KC.leB=KC.countedL c s:=rfl;rw [hT,List.drop_zero,Bt];have hl:(KC.countedL c s++(KC.isort (ltS c s) (KC.idx c.done.length)).drop (min c.done.length c.be.toNat)).length=c.done.length:=by rw [kU,hcl,bMc,hS];omega
  rw [hl]
  rcases Nat.eq_zero_or_pos c.done.length with h0 | h0
  ·have:KC.countedL c s=[]:=sO (by rw [hcl];omega)
   rw [this,h0];simp
  ·rw [Nat.div_self h0,Nat.mul_one,jJ,List.take_append_of_le_length (by rw [Bt,hcl];omega),List.take_of_length_le (by rw [Bt,hcl];omega)]
end CU
end KV
end Go.Proofs
end
