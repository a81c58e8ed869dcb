/- Parts of the proof of JPlaced: laws of walks, contracts of functions, plain models. No condition. -/
import Derived.Sort.LoopGhostIn
import Derived.Lib.OwnBridge
import Derived.Shelf.Slices.Clone
import Derived.Shelf.Small.Bits
import Derived.Shelf.Small.Wraps
import Derived.Shelf.Strconv.Itoa0
import Derived.Shelf.Sort.Plain
import Derived.Shelf.Slices.Turned
import Derived.Ground.Names2Prog
import Derived.Shelf.Slices.CompactI
import Derived.Shelf.Slices.SearchI
import Derived.Shelf.Slices.Cells
import Derived.Shelf.Slices.In.SortNone
import Derived.Ground.SlgnProg
import Derived.Shelf.SlicesE.Clone
import Derived.Test.YtgejpbmanhlkcaaGreatProg
import Derived.Sort.OwnSortedInts
import Derived.OneCell
import Derived.Test.YtgejpbmanhlkcaaGreatPJPlacedC
set_option linter.unusedVariables false
set_option linter.unusedSimpArgs false
set_option maxRecDepth 100000
namespace Go.Proofs
namespace KV
section
variable {P:Program} {T:TT} {E:Env} {C C0:Cx} {M M0 M1:Mem} {w w0:World}

def bkN(all:List Nat)(j:Nat):Option Nat:=all[j]?
def tY(all0:List Nat):List Nat→Mem→Option Upd
 | i::r,some o::m=>match mpO (bkN all0) o with
  | some o'=>(tY all0 r m).map ((i,o') :: ·)
  | none=>none
 | [],[]=>some []
 | _,_=>none

theorem aHy{all0:List Nat}:∀ {ids:List Nat} {m:Mem} {L:Upd},tY all0 ids m=some L→ids.Nodup →
  m.length=ids.length ∧
  ∀ (N:Mem),(∀ (p i:Nat) (o':AO),ids[p]? = some i→(bV (upds N L) i=some o'↔∃ o,m[p]? = some (some o)∧mpO (bkN all0) o=some o')) ∧
   ∀ j,j∉ids→bV (upds N L) j=bV N j
 | [],[],L,h,_=>by
  unfold tY at h;cases h
  refine ⟨rfl,fun N=>⟨fun p i o' hp=>by simp at hp,fun _ _=>rfl⟩⟩
 | i::r,some o::m,L,h,hd=>by
  unfold tY at h
  split at h
  ·rename_i o' ho
   simp only [kL] at h
   obtain ⟨L',hL',rfl⟩:=h;obtain ⟨hd1,hd2⟩:=List.nodup_cons.1 hd;obtain ⟨q1,q2⟩:=aHy (ids:=r) hL' hd2;refine ⟨by simpa using q1,fun N => ?_⟩
   obtain ⟨r1,r4⟩:=q2 (aZ N i (some o'));refine ⟨fun p j o2 hp => ?_,fun j hj => ?_⟩
   ·cases p with
    | zero =>
     simp at hp;subst hp
     simp only [upds];rw [r4 i hd1,cX,if_pos rfl];constructor
     ·intro h;cases h;exact ⟨o,rfl,ho⟩
     ·rintro ⟨o3,h3,h4⟩
      simp at h3;subst h3
      rw [ho] at h4;exact h4
    | succ p =>
     simp only [upds];rw [List.getElem?_cons_succ] at hp
     rw [r1 p j o2 hp];rfl
   ·simp only [upds]
    rw [r4 j (fun e=>hj (kQ6 _ e)),cX,if_neg (fun e=>hj (by simp [e]))]
  ·cases h
 | [],_::_,L,h,_=>by unfold tY at h;cases h
 | _::_,[],L,h,_=>by unfold tY at h;cases h
 | _::_,none::_,L,h,_=>by unfold tY at h;cases h

theorem aEj{all0:List Nat}:∀ {ids:List Nat} {m:Mem} {L:Upd},tY all0 ids m=some L→∀ (p:Nat) (o1:AO),m[p]? = some (some o1)→∃ o',mpO (bkN all0) o1=some o'
 | [],[],L,h,p,o1,hp=>by simp at hp
 | i::r,some o::m,L,h,p,o1,hp=>by
  unfold tY at h
  split at h
  ·rename_i hx
   simp only [kL] at h
   obtain ⟨L',hL',_⟩:=h;cases p with
   | zero=>simp at hp;subst hp;exact ⟨_,hx⟩
   | succ p=>exact aEj hL' p o1 (by simpa using hp)
  ·cases h
 | [],_::_,L,h,_,_,_=>by unfold tY at h;cases h
 | _::_,[],L,h,_,_,_=>by unfold tY at h;cases h
 | _::_,none::_,L,h,_,_,_=>by unfold tY at h;cases h

def Cx.backN(C C1:Cx)(all:List Nat):Cx :=
 {ι:=fun j=>match idx all j 0 with | some p=>C1.ι p | none=>C.ι j
  κ:=fun j=>match idx all j 0 with | some p=>C1.κ p | none=>C.κ j
  F:=C1.F }

theorem bKu{ids news:List Nat}{r y:AV}{L:Upd}{C1:Cx}{w':World}{u:Value}(hd:distinct 0 ids=true)(hda:distinct 0 (ids++news)=true)(hb:∀ i∈news,fK M i=true)
  (hs:rnM 0 ids (ids.map (at? M))=some M0) (hlv:∀ i∈ids,eJ M i=true) (hU:tY (ids++news) (ids++news) M1=some L) (hy:mpA (bkN (ids++news)) r=some y)
  (hM:aR P C M w) (hF:Fr (C.rn 0 ids) M0 w C1 M1 w') (hM1:aR P C1 M1 w') (hr:Rep C1 M1 w' r u):Fr C M w (C.backN C1 (ids++news)) (upds M L) w'∧aR P (C.backN C1 (ids++news)) (upds M L) w'∧Rep (C.backN C1 (ids++news)) (upds M L) w' y u:=by
 obtain ⟨_,hnd⟩:=iX hd;obtain ⟨_,hna⟩:=iX hda;obtain ⟨hM0,hmp,hsrc⟩:=rC (k:=0) hM hd hs;have hlen:M0.length=ids.length:=by have:=(aBt hs).1;simpa using this
 generalize hall:ids++news=all at *
 obtain ⟨hl1,hup⟩:=aHy hU hna;obtain ⟨u1,u4⟩:=hup M;have hL:=hM0.le hF;have inA:∀ (p i:Nat),ids[p]? = some i→all[p]? = some i:=fun p i h=>by
  rw [← hall,aAh (kQ3.1 h).1];exact h
 have memA:∀ i,i∈all↔i∈ids∨i∈news:=fun i=>by rw [← hall];simp
 have newF:∀ (p i:Nat),all[p]? = some i→i∉ids→fK M i=true:=fun p i h hn=>by
  rcases (memA i).1 (kQ5 h) with h | h
  ·exact absurd h hn
  ·exact hb i h
 have oldP:∀ (p i:Nat),all[p]? = some i→i∈ids→ids[p]? = some i:=fun p i h hn=>by
  obtain ⟨q,hq,he⟩:=List.mem_iff_getElem.1 hn;have h2:ids[q]? = some i:=by rw [kQ0 hq,he]
  have e1:=qA hna 0 h;have e2:=qA hna 0 (inA q i h2);rw [e1] at e2
  have:p=q:=by simpa using e2
  rw [this];exact h2
 have rnp:∀ p i,ids[p]? = some i→rnI 0 ids i=some p:=fun p i h=>by
  have:=qA hnd 0 h;unfold rnI;rw [show Nat.blt i 0=false from rfl,this,gN]
 have shown0:∀ p i,ids[p]? = some i→∃ o o0,M[i]? = some (some o)∧o.live=true∧M0[p]? = some (some o0)∧o0.live=true∧(C.rn 0 ids).ι p=C.ι i∧(C.rn 0 ids).κ p=C.κ i:=fun p i hp=>by
  obtain ⟨o,h1,h2⟩:=dQ (hlv i (kQ5 hp));obtain ⟨o0,h3,h4⟩:=hmp.fw _ _ _ (rnp p i hp) h1;exact ⟨o,o0,h1,h2,h3,by rw [bO h4];exact h2,hmp.at_ _ _ (rnp p i hp)⟩
 have sh_of:∀ (p:Nat) (o0:AO),M0[p]? = some (some o0)→∃ i o,ids[p]? = some i∧M[i]? = some (some o)∧o.live=true∧o0.live=true∧(C.rn 0 ids).ι p=C.ι i:=fun p o0 hp=>by
  obtain ⟨hl,_⟩:=kQ3.1 hp;have hp':ids[p]? = some ids[p]:=kQ0 (by omega)
  obtain ⟨o,o1,h1,h2,h3,h4,h5,_⟩:=shown0 p _ hp';rw [hp] at h3;cases h3
  exact ⟨_,o,hp',h1,h2,h4,h5⟩
 have apart:∀ (j:Nat) (o:AO) (b:Nat),j∉ids→M[j]? = some (some o)→o.live=true→C.ι j=some b→w'.heap[b]? = w.heap[b]? ∧ ¬ C1.F b∧∀ (p:Nat) (o1:AO),M1[p]? = some (some o1)→o1.live=true→C1.ι p≠some b:=fun j o b hj h1 h2 h3=>by
  have hb1:=hM.lt j o b h1 h2 h3;have no0:∀ (p:Nat) (o0:AO),M0[p]? = some (some o0)→o0.live=true→(C.rn 0 ids).ι p≠some b:=fun p o0 hp _ he=>by
   obtain ⟨i,o2,q1,q2,q3,_,q4⟩:=sh_of p o0 hp;rw [q4] at he
   have:=hM.inj j i o o2 b h1 h2 q2 q3 h3 he;subst this;exact hj (kQ5 q1)
  refine ⟨hF.keep b hb1 no0,fun hf => ?_,fun p o1 hp hl he => ?_⟩
  ·rcases hF.F2 b hf with q | q | ⟨p,o0,q1,q2,q3⟩
   ·exact hM.nF j o b h1 h2 h3 q
   ·omega
   ·exact no0 p o0 q1 q2 q3
  ·rcases hF.new p o1 b hp hl he with q | ⟨p0,o0,q1,q2,q3⟩
   ·omega
   ·exact no0 p0 o0 q1 q2 q3
 have ix:∀ j,(j∈all→∃ p,idx all j 0=some p∧all[p]? = some j)∧(j∉all→idx all j 0=none):=fun j=>by
  refine ⟨fun hj => ?_,fun hj => ?_⟩
  ·obtain ⟨p,hp,he⟩:=List.mem_iff_getElem.1 hj
   have:all[p]? = some j:=by rw [kQ0 hp,he]
   exact ⟨p,by simpa using qA hna 0 this,this⟩
  ·cases h1:idx all j 0 with
   | none=>rfl
   | some p =>
    obtain ⟨_,h2⟩:=vP _ _ _ _ h1;exact absurd (kQ5 h2) hj
 have cls:∀ (j:Nat) (o':AO),(upds M L)[j]? = some (some o')→(∃ p o1,all[p]? = some j∧M1[p]? = some (some o1)∧mpO (bkN all) o1=some o'∧(C.backN C1 all).ι j=C1.ι p∧(C.backN C1 all).κ j=C1.κ p) ∨
   (j∉ids∧j∉all∧M[j]? = some (some o')∧(C.backN C1 all).ι j=C.ι j∧(C.backN C1 all).κ j=C.κ j):=fun j o' hj=>by
  rw [← bE] at hj
  by_cases hm:j∈all
  ·obtain ⟨p,hp1,hp2⟩:=(ix j).1 hm
   obtain ⟨o1,h1,h2⟩:=(u1 p j o' hp2).1 hj;exact .inl ⟨p,o1,hp2,h1,h2,by simp [Cx.backN,hp1],by simp [Cx.backN,hp1]⟩
  ·have hn:=(ix j).2 hm
   rw [u4 j hm] at hj
   exact .inr ⟨fun h=>hm ((memA j).2 (.inl h)),hm,bE.1 hj,by simp [Cx.backN,hn],by simp [Cx.backN,hn]⟩
 have hF2:Fr C M w (C.backN C1 all) (upds M L) w':=by
  refine ⟨hF.os,hF.tape,hF.out,hF.size,fun b hb1 hn => ?_,fun i o ho => ?_,fun i o ho ty n cs hx => ?_,fun i o ho o' hx hl => ?_,fun j o b hj hl hjb => ?_,fun b hb=>hF.F1 b hb,fun b hb => ?_⟩
  ·exact hF.keep b hb1 fun p o0 hp hl he=>by
    obtain ⟨i,o2,q1,q2,q3,_,q4⟩:=sh_of p o0 hp;rw [q4] at he
    exact hn i o2 q2 q3 he
  ·by_cases hm:i∈all
   ·obtain ⟨p,hp1,hp2⟩:=(ix i).1 hm
    have hmi:i∈ids:=Classical.byContradiction fun hni=>cP (newF p i hp2 hni) o ho
    obtain ⟨_,o0,_,_,h3,h4,h5,h6⟩:=shown0 p i (oldP p i hp2 hmi);obtain ⟨⟨o1,q1⟩,q2,q3⟩:=hF.ids p o0 h3;refine ⟨?_,by simp only [Cx.backN,hp1];rw [q2,h5],by simp only [Cx.backN,hp1];rw [q3,h6]⟩
    obtain ⟨o',hq⟩:=aEj hU p o1 q1;exact ⟨o',bE.1 ((u1 p i o' hp2).2 ⟨o1,q1,hq⟩)⟩
   ·refine ⟨⟨o,bE.1 (by rw [u4 i hm];exact bE.2 ho)⟩,by simp [Cx.backN,(ix i).2 hm],by simp [Cx.backN,(ix i).2 hm]⟩
  ·rcases cls i _ hx with ⟨p,o1,q1,q2,q3,_⟩ | ⟨_,_,q3,_⟩
   ·have hmi:i∈ids:=Classical.byContradiction fun hni=>cP (newF p i q1 hni) o ho
    have q1:=oldP p i q1 hmi;rw [lB q3] at q2
    obtain ⟨o2,o0,h1,_,h3,_⟩:=shown0 p i q1;obtain ⟨cs',h5⟩:=hF.row p o0 h3 _ _ _ q2;obtain ⟨o4,h6,h7⟩:=hmp.bk _ _ _ (rnp p i q1) h5;rw [lB h7] at h6
    exact ⟨cs',h6⟩
   ·exact ⟨cs,q3⟩
  ·rcases cls i _ hx with ⟨p,o1,q1,q2,q3,_⟩ | ⟨_,_,q3,_⟩
   ·have hmi:i∈ids:=Classical.byContradiction fun hni=>cP (newF p i q1 hni) o ho
    obtain ⟨o2,o0,h1,h2,h3,_⟩:=shown0 p i (oldP p i q1 hmi);rw [ho] at h1;cases h1
    exact h2
   ·rw [ho] at q3;cases q3;exact hl
  ·have fin:∀ (p:Nat) (o1:AO),M1[p]? = some (some o1)→o1.live=true→C1.ι p=some b→w.heap.size≤b∨∃ (id0:Nat) (o0:AO),M[id0]? = some (some o0)∧o0.live=true∧C.ι id0=some b:=fun p o1 h1 h2 h3=>by
    rcases hF.new p o1 b h1 h2 h3 with q | ⟨p0,o0,q1,q2,q3⟩
    ·exact .inl q
    ·obtain ⟨i,o2,r1,r2,r3,_,r4⟩:=sh_of p0 o0 q1
     rw [r4] at q3
     exact .inr ⟨i,o2,r2,r3,q3⟩
   rcases cls j _ hj with ⟨p,o1,q1,q2,q3,q4,_⟩ | ⟨_,_,q3,q4,_⟩
   ·rw [q4] at hjb
    exact fin p o1 q2 (by rw [← bO q3];exact hl) hjb
   ·rw [q4] at hjb
    exact .inr ⟨j,o,q3,hl,hjb⟩
  ·rcases hF.F2 b hb with q | q | ⟨p,o0,q1,q2,q3⟩
   ·exact .inl q
   ·exact .inr (.inl q)
   ·obtain ⟨i,o2,r1,r2,r3,_,r4⟩:=sh_of p o0 q1
    rw [r4] at q3
    exact .inr (.inr ⟨i,o2,r2,r3,q3⟩)
 have hL2:=hM.le hF2;have hbk:aXt (bkN all) C1 (C.backN C1 all) M1 (upds M L):=by
  refine ⟨fun i j o' hij hj=>(u1 i j o' hij).1 (bE.2 hj),fun i j o hij hi => ?_,fun i j hij => ?_,fun _ h=>h⟩
  ·obtain ⟨o',hq⟩:=aEj hU i o hi
   exact ⟨o',bE.1 ((u1 i j o' hij).2 ⟨o,hi,hq⟩),hq⟩
  ·have:=qA hna 0 hij
   rw [gN] at this
   simp [Cx.backN,this]
 refine ⟨hF2,⟨fun j ty n cs h => ?_,fun j ty cs h => ?_,fun j es cl h => ?_,fun j j' o1 o2 b q1 l1 q2 l2 e1 e2 => ?_,fun j o b h hl hb => ?_,hM1.Fs,fun j o b h hl hb => ?_⟩,sR hbk hr hy⟩
 ·rcases cls j _ h with ⟨p,o1,q1,q2,q3,q4,q5⟩ | ⟨q1,_,q3,q4,q5⟩
  ·rw [lB q3] at q2
   rw [q4,q5];exact hM1.row _ _ _ _ q2
  ·rw [q4,q5]
   rcases hM.row _ _ _ _ q3 with q | ⟨b,arr,inf,p0,p1,p2,p3,p4,p5,p6,p7,p8⟩
   ·exact .inl q
   ·exact .inr ⟨b,arr,inf,p0,by rw [(apart j _ b q1 q3 rfl p0).1];exact p1,p2,p3,p4,p5,p6,fun i hi=>(p7 i hi).mono hL2.F hL2.fz,p8⟩
 ·rcases cls j _ h with ⟨p,o1,q1,q2,q3,q4,q5⟩ | ⟨q1,_,q3,q4,q5⟩
  ·cases o1 with
   | box ty' l =>
    simp only [mpO,kL] at q3
    obtain ⟨l',hl',e⟩:=q3;cases e;obtain ⟨b,arr,p0,p1,p2,p3,p4⟩:=hM1.box _ _ _ q2;obtain ⟨n1,n2⟩:=gE hbk (w:=w') (us:=fun j=>arr.getD j undef) p3 hl'
    exact ⟨b,arr,by rw [q4];exact p0,p1,by omega,n2,fun j hj=>p4 j (by omega)⟩
   | row=>simp [mpO] at q3
   | mp=>simp [mpO] at q3
   | pk=>simp [mpO] at q3
   | dead=>simp [mpO] at q3
  ·obtain ⟨b,arr,p0,p1,p2,p3,p4⟩:=hM.box _ _ _ q3
   exact ⟨b,arr,by rw [q4];exact p0,by rw [(apart j _ b q1 q3 rfl p0).1];exact p1,p2,fun i hi=>(p3 i hi).mono hL2,p4⟩
 ·rcases cls j _ h with ⟨p,o1,q1,q2,q3,q4,q5⟩ | ⟨q1,_,q3,q4,q5⟩
  ·cases o1 with
   | mp es' cl' =>
    simp only [mpO,Option.some.injEq] at q3
    cases q3;obtain ⟨b,arr,p0,p1,p2,p3⟩:=hM1.mp _ _ _ q2;refine ⟨b,arr,by rw [q4];exact p0,p1,p2,fun j hj => ?_⟩
    obtain ⟨en,s1,s2,s3,s4⟩:=p3 j hj;exact ⟨en,s1,s2,s3,s4.mono hbk.F (fun _ _=>rfl)⟩
   | row=>simp [mpO] at q3
   | box=>simp [mpO] at q3
   | pk=>simp [mpO] at q3
   | dead=>simp [mpO] at q3
  ·obtain ⟨b,arr,p0,p1,p2,p3⟩:=hM.mp _ _ _ q3
   refine ⟨b,arr,by rw [q4];exact p0,by rw [(apart j _ b q1 q3 rfl p0).1];exact p1,p2,fun i hi => ?_⟩
   obtain ⟨en,s1,s2,s3,s4⟩:=p3 i hi;exact ⟨en,s1,s2,s3,s4.mono hL2.F hL2.fz⟩
 ·rcases cls j _ q1 with ⟨p,a1,r1,r2,r3,r4,_⟩ | ⟨r1,rb,r3,r4,_⟩ <;> rcases cls j' _ q2 with ⟨p',a2,t1,t2,t3,t4,_⟩ | ⟨t1,tb,t3,t4,_⟩
  all_goals (rw [r4] at e1;rw [t4] at e2)
  ·have:=hM1.inj p p' a1 a2 b r2 (by rw [← bO r3];exact l1) t2 (by rw [← bO t3];exact l2) e1 e2
   subst this;rw [r1] at t1;cases t1;rfl
  ·exact absurd e1 ((apart j' o2 b t1 t3 l2 e2).2.2 p a1 r2 (by rw [← bO r3];exact l1))
  ·exact absurd e2 ((apart j o1 b r1 r3 l1 e1).2.2 p' a2 t2 (by rw [← bO t3];exact l2))
  ·exact hM.inj j j' o1 o2 b r3 l1 t3 l2 e1 e2
 ·rcases cls j _ h with ⟨p,o1,q1,q2,q3,q4,q5⟩ | ⟨q1,_,q3,q4,q5⟩
  ·rw [q4] at hb
   exact hM1.nF _ _ b q2 (by rw [← bO q3];exact hl) hb
  ·rw [q4] at hb
   exact (apart j o b q1 q3 hl hb).2.1
 ·rcases cls j _ h with ⟨p,o1,q1,q2,q3,q4,q5⟩ | ⟨q1,_,q3,q4,q5⟩
  ·rw [q4] at hb
   exact hM1.lt _ _ b q2 (by rw [← bO q3];exact hl) hb
  ·rw [q4] at hb
   exact kQ8 (hM.lt j o b q3 hl hb) hF.size

def aTv(ids news:List Nat)(args:List AV)(bs:Upd)(M1:Mem)(r:AV):Option (List AV × Mem × AV × Upd):=match distinct 0 ids && distinct 0 (ids++news) && ids.all (eJ (upds [] bs)) with
 | true=>match rnM 0 ids (ids.map (at? (upds [] bs))) with
  | some M0=>match rnL 0 ids args with
   | some args0=>match tY (ids++news) (ids++news) M1 with
    | some L=>match mpA (bkN (ids++news)) r with
     | some y=>some (args0,M0,y,L)
     | none=>none
    | none=>none
   | none=>none
  | none=>none
 | false=>none
theorem FMM.fcN{f base k:Nat}(hk:Nat.ble k 8=true){ids:List Nat}{args args0:List AV}{bs:Upd}{r y:AV}{L:Upd}(h:FMM P f args0 M0 r M1)(hs:aTv ids ((List.range k).map (base + ·)) args bs M1 r=some (args0,M0,y,L)):FC P f args bs base y L:=fun M hb hf hf2=>by
 unfold aTv at hs
 have hsub:aPl (upds [] bs) M:=fun id o ho=>by
  rcases rA bs [] id o ho with h5 | h5
  ·exact hb _ h5
  ·simp [bV] at h5
 split at hs
 ·rename_i hd
  rw [kQ7,kQ7,gA] at hd
  obtain ⟨⟨hd1,hd2⟩,hd3⟩:=hd;have hlv:∀ i∈ids,∃ o,bV (upds [] bs) i=some o∧bV M i=some o∧o.live=true:=fun i hi=>by
   obtain ⟨o,h1,h2⟩:=dQ (hd3 i hi);exact ⟨o,bE.2 h1,hsub _ _ (bE.2 h1),h2⟩
  split at hs
  ·rename_i h1
   split at hs
   ·rename_i h2
    split at hs
    ·rename_i h3
     split at hs
     ·rename_i h4
      cases hs;have he:ids.map (at? M)=ids.map (at? (upds [] bs)):=aAj fun i hi=>by
       obtain ⟨o,q1,q2,_⟩:=hlv i hi;unfold at?
       rw [q1,q2]
      intro C w us hus hM n;have h1':rnM 0 ids (ids.map (at? M))=some M0:=by rw [he];exact h1
      obtain ⟨hM0,hmp,_⟩:=rC (k:=0) hM hd1 h1';refine (h (C.rn 0 ids) w us (aJk hmp hus h2) hM0 n).mono ?_;rintro e w' ⟨u,rfl,C1,hF,hM1,hr⟩;exact ⟨u,rfl,C.backN C1 (ids++(List.range k).map (base + ·)),bKu hd1 hd2 (fun i hi=>by
       obtain ⟨j,hj,rfl⟩:=kQ9.1 hi;have hj:=lH.1 hj;have hk:=Nat.le_of_ble_eq_true hk;exact hf2 j (by omega)) h1' (fun i hi=>by
       obtain ⟨o,_,q2,q3⟩:=hlv i hi;exact jE (bE.1 q2) q3) h3 h4 hM hF hM1 hr⟩
     ·cases hs
    ·cases hs
   ·cases hs
  ·cases hs
 ·cases hs
def qF(ids:List Nat)(base:Nat):=bkN (ids++(List.range 7).map (base+·))
def qN(ids:List Nat)(base:Nat)(x:AV):AV:=(mpA (qF ids base) x).getD .any
theorem mN(ids:List Nat)(base:Nat){P:Program}{f:Nat}{args0:List AV}{M0 M1:Mem}{r:AV}(h:FMM P f args0 M0 r M1)(hs:aTv ids ((List.range 7).map (base+·)) (args0.map (qN ids base)) (qS ids (qF ids base) (args0.map (qN ids base)) M0) M1 r=some (args0,M0,qN ids base r,(tY (ids++(List.range 7).map (base+·)) (ids++(List.range 7).map (base+·)) M1).getD []):=by kernel_rfl):FC P f (args0.map (qN ids base)) (qS ids (qF ids base) (args0.map (qN ids base)) M0) base (qN ids base r) ((tY (ids++(List.range 7).map (base+·)) (ids++(List.range 7).map (base+·)) M1).getD []):=FMM.fcN (k:=7) rfl h hs
end
section
variable {b0 out b106 b112 b114 out' out'0:Bool}{a b m r0 s0 s1 x0 x1 x2 x3 x4 x5 bib tot m108 tot' y100 y101 y102 y103 y104 y105 z106 z107 z108 z109 z110 z111 tot'1:Int}{T t T1 t' t'3 T107 T109 T113 T115:Lqb}{l o:List Int}{i i' i'1 i'2 base:Nat}{ov:PV}
variable {dl:Int}{sk dc:Lqq}

noncomputable abbrev eH:Code:=sub (cd Tryz.f134) [1,1,0,1,0,0]
noncomputable abbrev oE:Code:=sub (cd Tryz.f83) [1,1,1,0,1,0,0]
theorem bJc:0≤(0:Int)∧(0:Int)<5:=by first | decide | simp
theorem bJd:0≤(1:Int)∧(1:Int)<5:=by first | decide | simp
theorem bJe:0≤(2:Int)∧(2:Int)<5:=by first | decide | simp
theorem bJf:0≤(3:Int)∧(3:Int)<5:=by first | decide | simp
theorem bJg:0≤(4:Int)∧(4:Int)<5:=by first | decide | simp
abbrev aAo(dl:Int)(sk dc:Lqq)(ov:PV)(x:List Int)(bib:Int)(b:Bool)(T T2:Lqb):Prop:=FMM Tp 136 [yD,.p (.agg (x.map aB)),.p (aB bib)] (dF dl sk dc ov T) (pB b) (dF dl sk dc ov T2)
abbrev aFr(dl:Int)(sk dc:Lqq)(ov:PV)(s:List Int)(n:Int)(b:Bool)(T T2:Lqb):Prop:=FMM Tp 134 [pG dl sk dc,.p (.agg (s.map aB)),yD] (dF dl sk dc ov T) (.tup [.p (aB n),.p (blP b)]) (dF dl sk dc ov T2)
theorem bUp(h0:(decide (x1≤4))=true)(h1:x3=bib)(h2:sF dl sk dc ov [x0,x1,x2,x3,x4,x5] b0 T T1)(h3:b0=true)(h4:x1≠4):FMM Tp 136 [yD,(.p (dcE x0 x1 x2 x3 x4 x5)),(pI bib)] (dF dl sk dc ov T) (pB true) (dF dl sk dc ov T1):=by
 have k1:=fk 9 (eL x1) rfl;have k2:=mq [0,1,2,3,4,5,6] 9 h2;exact FMM.fi 7 ⟨[],[],[],[]⟩ Tryz.func136 [k1.o,bT,bT,bT,bT,bT,bT,bT,bT,bT,k2.o,bT,bT,bT,bT,bT,bT,bT,bT,bT,bT,bT,bT] (gc h3 (gc (nB h4) (gc h3 (g4c (nB h4) (g4c h3 (gc (dX h1) (gc k2 (g4c (dX h1) (g5c h0 (gc k1 gn))))))))))
theorem bUq{b2:Bool}{T3:Lqb}(h0:(decide (x1≤4))=true)(h1:x3=bib)(h2:sF dl sk dc ov [x0,x1,x2,x3,x4,x5] b0 T T1)(h3:b0=true)(h4:x1=4)(h5:bOp dl sk dc ov [x0,x1,x2,x3,x4,x5] b2 T1 T3):FMM Tp 136 [yD,(.p (dcE x0 x1 x2 x3 x4 x5)),(pI bib)] (dF dl sk dc ov T) (pB b2) (dF dl sk dc ov T3):=by
 have k1:=fk 9 (eL x1) rfl;have k2:=mq [0,1,2,3,4,5,6] 9 h2;have k3:=mq [0,1,2,3,4,5,6] 9 h5;exact FMM.fi 7 ⟨[],[],[],[]⟩ Tryz.func136 [k1.o,bT,bT,bT,bT,bT,bT,bT,bT,bT,k2.o,bT,bT,bT,bT,bT,bF,bF,bF,bF,k3.o,bT,bF,bT] (gc h3 (gc (gB h4) (gc h3 (gc k3 (g4c (gB h4) (g4c h3 (gc (dX h1) (gc k2 (g4c (dX h1) (g5c h0 (gc k1 gn)))))))))))
theorem bUr(h0:(decide (x1≤4))=true)(h1:x3=bib)(h2:sF dl sk dc ov [x0,x1,x2,x3,x4,x5] b0 T T1)(h3:b0=false):FMM Tp 136 [yD,(.p (dcE x0 x1 x2 x3 x4 x5)),(pI bib)] (dF dl sk dc ov T) (pB false) (dF dl sk dc ov T1):=by
 have k1:=fk 9 (eL x1) rfl;have k2:=mq [0,1,2,3,4,5,6] 9 h2;exact FMM.fi 7 ⟨[],[],[],[]⟩ Tryz.func136 [k1.o,bT,bT,bT,bT,bT,bT,bT,bT,bT,k2.o,bT,bF,bF,bF,bF,bF,bF] (g6c h3 (gc (dX h1) (gc k2 (g4c (dX h1) (g5c h0 (gc k1 gn))))))
theorem bUs(h0:(decide (x1≤4))=true)(h1:x3≠bib):FMM Tp 136 [yD,(.p (dcE x0 x1 x2 x3 x4 x5)),(pI bib)] (dF dl sk dc ov T) (pB false) (dF dl sk dc ov T):=by
 have k1:=fk 9 (eL x1) rfl;exact FMM.fi 7 ⟨[],[],[],[]⟩ Tryz.func136 [k1.o,bT,bT,bT,bT,bT,bF,bF,bF,bF,bF] (g5c (bJ h1) (g5c h0 (gc k1 gn)))
theorem bUt(h0:(decide (x1≤4))=false):FMM Tp 136 [yD,(.p (dcE x0 x1 x2 x3 x4 x5)),(pI bib)] (dF dl sk dc ov T) (pB false) (dF dl sk dc ov T):=by
 have k1:=fk 9 (eL x1) rfl;exact FMM.fi 7 ⟨[],[],[],[]⟩ Tryz.func136 [k1.o,bF,bF,bF,bF,bF] (g5c h0 (gc k1 gn))
theorem bUu(h0:inR (a+b))(er0:r0=(a+b)):FV Tp 212 [(pI a),(pI b)] base (pI r0) []:=by
 subst er0;exact FV.fi Tryz.func212 [] (gc h0 gn)
theorem bUv(h0:inR (a-b))(er0:r0=(a-b)):FV Tp 213 [(pI a),(pI b)] base (pI r0) []:=by
 subst er0;exact FV.fi Tryz.func213 [] (gc h0 gn)
theorem bUw(h0:inR ((1200:Int)*b))(h1:inR (a+((1200:Int)*b)))(er0:r0=(a+((1200:Int)*b))):FV Tp 214 [(pI a),(pI b)] base (pI r0) []:=by
 subst er0;exact FV.fi Tryz.func214 [] (gc h1 (gc h0 gn))
theorem bUx:FV Tp 215 [(pI a),(pI b)] base (pI a) []:=by
 exact FV.fi Tryz.func215 [] gn
theorem aJv(a b:Int)(h:inR (a+b)){base:Nat}:FV Tp 212 [.p (aB a),.p (aB b)] base (pI (a+b)) []:=bUu h rfl
theorem bJh(a b:Int)(h:inR (a-b)){base:Nat}:FV Tp 213 [.p (aB a),.p (aB b)] base (pI (a-b)) []:=bUv h rfl
theorem bJi(a b:Int)(h:inR (1200*b)∧inR (a+1200*b)){base:Nat}:FV Tp 214 [.p (aB a),.p (aB b)] base (pI (a+1200*b)) []:=bUw h.1 h.2 rfl
theorem bJj(a b:Int){base:Nat}:FV Tp 215 [.p (aB a),.p (aB b)] base (pI a) []:=bUx
theorem oF:FV Tp 183 [] base (.agg [(.fn 212 [] []),(.fn 213 [] []),(.fn 214 [] []),(.fn 215 [] []),(.fn 212 [] [])]) []:=by
 exact FV.fi Tryz.func183 [] gn
def sD(l:List Int)(m:Int)(i:Nat):St:=⟨fr 18 [(0,(pI m)),(4,(pI 0)),(7,(.p (aF l))),(8,(pI (l.length:Int))),(9,(pI (i:Int)))],[]⟩
theorem bUy{m'0:Int}(hl0:aH Tp 0 (sub (cd Tryz.f184) [1,0,1,0,0]) (sD l a 0) (.exit 0) (sD l m'0 i'1)):FV Tp 184 [(pI a),(.p (aF l))] base (pI m'0) []:=by
 exact FV.fi Tryz.func184 [hl0.k 6 ⟨(rng [(1,3),(5,2),(10,7)]),[],[],[]⟩] (gc hl0.code gn)
theorem bBj{x100 m':Int}(h0:(i:Int)<(l.length:Int))(h1:l[i]? = some x100)(h2:inR (((i+1):Nat):Int))(em':m'=(if x100 > m then x100 else m))(ei':i'=(i+1)):aC Tp 0 (sub (cd Tryz.f184) [1,0,1,0,0]) (sD l m i) .normal (sD l m' i'):=by
 subst em' ei';exact aC.fi ⟨(rng [(1,3),(5,2),(10,7)]),[],[],[]⟩ [bT,.x (aB x100)] (gc h2 (gc (atm aB h1) (gc (ixn aB h1) (gc (aV h0) gn))))
theorem bBk(h0:(l.length:Int)≤(i:Int)):aC Tp 0 (sub (cd Tryz.f184) [1,0,1,0,0]) (sD l m i) (.exit 0) (sD l m i):=by
 exact aC.fi ⟨(rng [(1,3),(5,2),(10,7)]),[],[],[]⟩ [bF] (gc (bA h0) gn)
def aAp(a:Int)(l:List Int):Int:=l.foldl (fun m x=>if x > m then x else m) a
theorem aSh(a:Int)(l:List Int)(hl:l.length≤1000){base:Nat}:FV Tp 184 [.p (aB a),.p (aF l)] base (pI (aAp a l)) [] :=
 bUy (aH.range (P:=Tp) (k:=0) (e := .exit 0) (fun i m=>sD l m i) (fun m=>sD l m l.length) (fun m x=>if x > m then x else m) (fun _ _=>True) (by simp) l trivial
  (fun i x acc hx _=>⟨trivial,bBj (by have:=bC hx;omega) hx (aO (by have:=bC hx;omega)) rfl rfl⟩) (fun acc _=>bBk (by omega)))
def bS(dl:Int)(sk:Lqq)(dc:Lqq)(ov:PV)(s0:Int)(s1:Int)(out:Bool)(tot:Int)(i:Nat)(te:List (Value × PV))(tk:Nat):St:=⟨fr 54 [(4,(.ptr 7 0)),(5,(.ptr 8 0)),(6,(pI 0)),(7,(.kb false)),(8,(pB out)),(9,(pI tot)),(21,(.p (fS dc))),(22,(pI (dc.length:Int))),(23,(pI (i:Int)))],[some (vB0 dl sk dc),some (.box 33 [(.p ov)]),some vB2,some (.mp te tk),some (.box 207 [(.mp 3)]),some (vB5 dl sk dc),some vB6,some (.box 31 [(pI s0),(pI s1)]),some vB2]⟩
theorem bUz(hl0:aH Tp 7 eH (bS dl sk dc ov s0 s1 (s1 == (-1:Int)) s1 0 (aL T) T.length) (.exit 0) (bS dl sk dc ov s0 s1 out'0 tot'1 i'2 (aL t'3) t'3.length))(h1:out'0=true):FMM Tp 134 [(.rp (aX dl sk dc) 0),(.p (.agg [(aB s0),(aB s1)])),yD] (dF dl sk dc ov T) (.tup [(pI 0),(pB true)]) (dF dl sk dc ov t'3):=by
 exact FMM.fi 7 ⟨[],[],[],[]⟩ Tryz.func134 [.x (fS dc),hl0.k 1 ⟨(rng [(0,4),(10,11),(24,26)]),[7,8],[],[]⟩,bT] (gc h1 (gc hl0.code (gr (fS dc) gn)))
theorem bVa(hl0:aH Tp 7 eH (bS dl sk dc ov s0 s1 (s1 == (-1:Int)) s1 0 (aL T) T.length) (.exit 0) (bS dl sk dc ov s0 s1 out'0 tot'1 i'2 (aL t'3) t'3.length))(h1:out'0=false)(h2:([tot'1]:List Int).length≤1000)(er0:r0=(aAp (0:Int) ([tot'1]:List Int))):FMM Tp 134 [(.rp (aX dl sk dc) 0),(.p (.agg [(aB s0),(aB s1)])),yD] (dF dl sk dc ov T) (.tup [(pI r0),(pB false)]) (dF dl sk dc ov t'3):=by
 subst er0;exact FMM.fi 7 ⟨[],[],[],[]⟩ Tryz.func134 [.x (fS dc),hl0.k 1 ⟨(rng [(0,4),(10,11),(24,26)]),[7,8],[],[]⟩,bF,.c (pI (aAp (0:Int) ([tot'1]:List Int))) []] (gt (FC Tp 184 [(pI 0),(.own 9)] [(9,(.row 3 1 [(aB tot'1)]))] 10 (pI (aAp (0:Int) ([tot'1]:List Int))) []) (fv (aSh (0:Int) ([tot'1]:List Int) h2)) (gc h1 (gc hl0.code (gr (fS dc) gn))))
theorem bBl(h0:(i:Int)<(dc.length:Int))(h1:dc[i]? = some [y100,(0:Int),y102,y103,y104,y105])(h2:uni 6 dc)(h3:aAo dl sk dc ov [y100,(0:Int),y102,y103,y104,y105] s0 b106 t T107)(h4:b106=true)(h5:out=true)(h6:aAq dl sk dc ov [y100,(0:Int),y102,y103,y104,y105] m108 T107 T109)(h7:inR (tot+m108))(h8:inR (((i+1):Nat):Int))(etot':tot'=(tot+m108))(ei':i'=(i+1))(et'e:aL t'=(aL T109))(et'k:t'.length=T109.length):aC Tp 7 eH (bS dl sk dc ov s0 s1 out tot i (aL t) t.length) .normal (bS dl sk dc ov s0 s1 true tot' i' (aL t') t'.length):=by
 subst etot' ei';have k1:=mq [0,1,2,3,4,5,6] 10 h3;have k2:=fk 10 oF rfl;have k3:=mq [0,1,2,3,4,5,6] 18 h6;have raw:aC Tp 7 eH (bS dl sk dc ov s0 s1 out tot i (aL t) t.length) .normal (bS dl sk dc ov s0 s1 true (tot+m108) (i+1) (aL T109) T109.length):=aC.fi ⟨(rng [(0,4),(10,11),(24,26)]),[7,8],[],[(8,0)]⟩ [bT,.x (dcE y100 0 y102 y103 y104 y105),k1.o,bT,bT,bT,bT,bT,k2.o,k3.o,.c (pI (tot+m108)) []] (gc h8 (gc (fk 26 (aJv tot m108 h7) rfl) (gc k3 (gc bJc (gc k2 (g4c h5 (gc h4 (gc k1 (gc (aT (i:=i) h2 h1) (gc (bH (i:=i) h2 h1) (gc (bR (k:=6) (i:=(i:Int)) (by decide) h2 (kQ1 _) h1) (gc (aV h0) gn))))))))))))
 exact raw.cast (by rw [et'e,et'k])
theorem bBm(h0:(i:Int)<(dc.length:Int))(h1:dc[i]? = some [y100,(0:Int),y102,y103,y104,y105])(h2:uni 6 dc)(h3:aAo dl sk dc ov [y100,(0:Int),y102,y103,y104,y105] s0 b106 t T107)(h4:b106=true)(h5:out=false)(h6:aAq dl sk dc ov [y100,(0:Int),y102,y103,y104,y105] m108 T107 T109)(h7:inR (tot+m108))(h8:inR (((i+1):Nat):Int))(eout':out'=((0:Int) == (3:Int)))(etot':tot'=(tot+m108))(ei':i'=(i+1))(et'e:aL t'=(aL T109))(et'k:t'.length=T109.length):aC Tp 7 eH (bS dl sk dc ov s0 s1 out tot i (aL t) t.length) .normal (bS dl sk dc ov s0 s1 out' tot' i' (aL t') t'.length):=by
 subst eout' etot' ei';have k1:=mq [0,1,2,3,4,5,6] 10 h3;have k2:=fk 10 oF rfl;have k3:=mq [0,1,2,3,4,5,6] 18 h6;have raw:aC Tp 7 eH (bS dl sk dc ov s0 s1 out tot i (aL t) t.length) .normal (bS dl sk dc ov s0 s1 ((0:Int) == (3:Int)) (tot+m108) (i+1) (aL T109) T109.length):=aC.fi ⟨(rng [(0,4),(10,11),(24,26)]),[7,8],[],[]⟩ [bT,.x (dcE y100 0 y102 y103 y104 y105),k1.o,bT,bF,bF,bF,bF,k2.o,k3.o,.c (pI (tot+m108)) []] (gc h8 (gc (fk 26 (aJv tot m108 h7) rfl) (gc k3 (gc bJc (gc k2 (g4c h5 (gc h4 (gc k1 (gc (aT (i:=i) h2 h1) (gc (bH (i:=i) h2 h1) (gc (bR (k:=6) (i:=(i:Int)) (by decide) h2 (kQ1 _) h1) (gc (aV h0) gn))))))))))))
 exact raw.cast (by rw [et'e,et'k])
theorem bBn(h0:(i:Int)<(dc.length:Int))(h1:dc[i]? = some [y100,(1:Int),y102,y103,y104,y105])(h2:uni 6 dc)(h3:aAo dl sk dc ov [y100,(1:Int),y102,y103,y104,y105] s0 b106 t T107)(h4:b106=true)(h5:out=true)(h6:aAq dl sk dc ov [y100,(1:Int),y102,y103,y104,y105] m108 T107 T109)(h7:inR (tot-m108))(h8:inR (((i+1):Nat):Int))(etot':tot'=(tot-m108))(ei':i'=(i+1))(et'e:aL t'=(aL T109))(et'k:t'.length=T109.length):aC Tp 7 eH (bS dl sk dc ov s0 s1 out tot i (aL t) t.length) .normal (bS dl sk dc ov s0 s1 true tot' i' (aL t') t'.length):=by
 subst etot' ei';have k1:=mq [0,1,2,3,4,5,6] 10 h3;have k2:=fk 10 oF rfl;have k3:=mq [0,1,2,3,4,5,6] 18 h6;have raw:aC Tp 7 eH (bS dl sk dc ov s0 s1 out tot i (aL t) t.length) .normal (bS dl sk dc ov s0 s1 true (tot-m108) (i+1) (aL T109) T109.length):=aC.fi ⟨(rng [(0,4),(10,11),(24,26)]),[7,8],[],[(8,0)]⟩ [bT,.x (dcE y100 1 y102 y103 y104 y105),k1.o,bT,bT,bT,bT,bT,k2.o,k3.o,.c (pI (tot-m108)) []] (gc h8 (gc (fk 26 (bJh tot m108 h7) rfl) (gc k3 (gc bJd (gc k2 (g4c h5 (gc h4 (gc k1 (gc (aT (i:=i) h2 h1) (gc (bH (i:=i) h2 h1) (gc (bR (k:=6) (i:=(i:Int)) (by decide) h2 (kQ1 _) h1) (gc (aV h0) gn))))))))))))
 exact raw.cast (by rw [et'e,et'k])
theorem bBo(h0:(i:Int)<(dc.length:Int))(h1:dc[i]? = some [y100,(1:Int),y102,y103,y104,y105])(h2:uni 6 dc)(h3:aAo dl sk dc ov [y100,(1:Int),y102,y103,y104,y105] s0 b106 t T107)(h4:b106=true)(h5:out=false)(h6:aAq dl sk dc ov [y100,(1:Int),y102,y103,y104,y105] m108 T107 T109)(h7:inR (tot-m108))(h8:inR (((i+1):Nat):Int))(eout':out'=((1:Int) == (3:Int)))(etot':tot'=(tot-m108))(ei':i'=(i+1))(et'e:aL t'=(aL T109))(et'k:t'.length=T109.length):aC Tp 7 eH (bS dl sk dc ov s0 s1 out tot i (aL t) t.length) .normal (bS dl sk dc ov s0 s1 out' tot' i' (aL t') t'.length):=by
 subst eout' etot' ei';have k1:=mq [0,1,2,3,4,5,6] 10 h3;have k2:=fk 10 oF rfl;have k3:=mq [0,1,2,3,4,5,6] 18 h6;have raw:aC Tp 7 eH (bS dl sk dc ov s0 s1 out tot i (aL t) t.length) .normal (bS dl sk dc ov s0 s1 ((1:Int) == (3:Int)) (tot-m108) (i+1) (aL T109) T109.length):=aC.fi ⟨(rng [(0,4),(10,11),(24,26)]),[7,8],[],[]⟩ [bT,.x (dcE y100 1 y102 y103 y104 y105),k1.o,bT,bF,bF,bF,bF,k2.o,k3.o,.c (pI (tot-m108)) []] (gc h8 (gc (fk 26 (bJh tot m108 h7) rfl) (gc k3 (gc bJd (gc k2 (g4c h5 (gc h4 (gc k1 (gc (aT (i:=i) h2 h1) (gc (bH (i:=i) h2 h1) (gc (bR (k:=6) (i:=(i:Int)) (by decide) h2 (kQ1 _) h1) (gc (aV h0) gn))))))))))))
 exact raw.cast (by rw [et'e,et'k])
theorem bBp(h0:(i:Int)<(dc.length:Int))(h1:dc[i]? = some [y100,(2:Int),y102,y103,y104,y105])(h2:uni 6 dc)(h3:aAo dl sk dc ov [y100,(2:Int),y102,y103,y104,y105] s0 b106 t T107)(h4:b106=true)(h5:out=true)(h6:aAq dl sk dc ov [y100,(2:Int),y102,y103,y104,y105] m108 T107 T109)(h7:inR (1200*m108)∧inR (tot+1200*m108))(h8:inR (((i+1):Nat):Int))(etot':tot'=(tot+1200*m108))(ei':i'=(i+1))(et'e:aL t'=(aL T109))(et'k:t'.length=T109.length):aC Tp 7 eH (bS dl sk dc ov s0 s1 out tot i (aL t) t.length) .normal (bS dl sk dc ov s0 s1 true tot' i' (aL t') t'.length):=by
 subst etot' ei';have k1:=mq [0,1,2,3,4,5,6] 10 h3;have k2:=fk 10 oF rfl;have k3:=mq [0,1,2,3,4,5,6] 18 h6;have k4:=fk 26 (bJi tot m108 h7) rfl;have raw:aC Tp 7 eH (bS dl sk dc ov s0 s1 out tot i (aL t) t.length) .normal (bS dl sk dc ov s0 s1 true (tot+1200*m108) (i+1) (aL T109) T109.length):=aC.fi ⟨(rng [(0,4),(10,11),(24,26)]),[7,8],[],[(8,0)]⟩ [bT,.x (dcE y100 2 y102 y103 y104 y105),k1.o,bT,bT,bT,bT,bT,k2.o,k3.o,k4.o] (gc h8 (gc k4 (gc k3 (gc bJe (gc k2 (g4c h5 (gc h4 (gc k1 (gc (aT (i:=i) h2 h1) (gc (bH (i:=i) h2 h1) (gc (bR (k:=6) (i:=(i:Int)) (by decide) h2 (kQ1 _) h1) (gc (aV h0) gn))))))))))))
 exact raw.cast (by rw [et'e,et'k])
theorem bBq(h0:(i:Int)<(dc.length:Int))(h1:dc[i]? = some [y100,(2:Int),y102,y103,y104,y105])(h2:uni 6 dc)(h3:aAo dl sk dc ov [y100,(2:Int),y102,y103,y104,y105] s0 b106 t T107)(h4:b106=true)(h5:out=false)(h6:aAq dl sk dc ov [y100,(2:Int),y102,y103,y104,y105] m108 T107 T109)(h7:inR (1200*m108)∧inR (tot+1200*m108))(h8:inR (((i+1):Nat):Int))(eout':out'=((2:Int) == (3:Int)))(etot':tot'=(tot+1200*m108))(ei':i'=(i+1))(et'e:aL t'=(aL T109))(et'k:t'.length=T109.length):aC Tp 7 eH (bS dl sk dc ov s0 s1 out tot i (aL t) t.length) .normal (bS dl sk dc ov s0 s1 out' tot' i' (aL t') t'.length):=by
 subst eout' etot' ei';have k1:=mq [0,1,2,3,4,5,6] 10 h3;have k2:=fk 10 oF rfl;have k3:=mq [0,1,2,3,4,5,6] 18 h6;have k4:=fk 26 (bJi tot m108 h7) rfl;have raw:aC Tp 7 eH (bS dl sk dc ov s0 s1 out tot i (aL t) t.length) .normal (bS dl sk dc ov s0 s1 ((2:Int) == (3:Int)) (tot+1200*m108) (i+1) (aL T109) T109.length):=aC.fi ⟨(rng [(0,4),(10,11),(24,26)]),[7,8],[],[]⟩ [bT,.x (dcE y100 2 y102 y103 y104 y105),k1.o,bT,bF,bF,bF,bF,k2.o,k3.o,k4.o] (gc h8 (gc k4 (gc k3 (gc bJe (gc k2 (g4c h5 (gc h4 (gc k1 (gc (aT (i:=i) h2 h1) (gc (bH (i:=i) h2 h1) (gc (bR (k:=6) (i:=(i:Int)) (by decide) h2 (kQ1 _) h1) (gc (aV h0) gn))))))))))))
 exact raw.cast (by rw [et'e,et'k])
theorem bBr(h0:(i:Int)<(dc.length:Int))(h1:dc[i]? = some [y100,(3:Int),y102,y103,y104,y105])(h2:uni 6 dc)(h3:aAo dl sk dc ov [y100,(3:Int),y102,y103,y104,y105] s0 b106 t T107)(h4:b106=true)(h5:out=true)(h6:aAq dl sk dc ov [y100,(3:Int),y102,y103,y104,y105] m108 T107 T109)(h7:inR (((i+1):Nat):Int))(ei':i'=(i+1))(et'e:aL t'=(aL T109))(et'k:t'.length=T109.length):aC Tp 7 eH (bS dl sk dc ov s0 s1 out tot i (aL t) t.length) .normal (bS dl sk dc ov s0 s1 true tot i' (aL t') t'.length):=by
 subst ei';have k1:=mq [0,1,2,3,4,5,6] 10 h3;have k2:=fk 10 oF rfl;have k3:=mq [0,1,2,3,4,5,6] 18 h6;have raw:aC Tp 7 eH (bS dl sk dc ov s0 s1 out tot i (aL t) t.length) .normal (bS dl sk dc ov s0 s1 true tot (i+1) (aL T109) T109.length):=aC.fi ⟨(rng [(0,4),(10,11),(24,26)]),[7,8],[],[(8,0)]⟩ [bT,.x (dcE y100 3 y102 y103 y104 y105),k1.o,bT,bT,bT,bT,bT,k2.o,k3.o,.c (pI tot) []] (gc h7 (gc (fk 26 (bJj tot m108) rfl) (gc k3 (gc bJf (gc k2 (g4c h5 (gc h4 (gc k1 (gc (aT (i:=i) h2 h1) (gc (bH (i:=i) h2 h1) (gc (bR (k:=6) (i:=(i:Int)) (by decide) h2 (kQ1 _) h1) (gc (aV h0) gn))))))))))))
 exact raw.cast (by rw [et'e,et'k])
theorem bBs(h0:(i:Int)<(dc.length:Int))(h1:dc[i]? = some [y100,(3:Int),y102,y103,y104,y105])(h2:uni 6 dc)(h3:aAo dl sk dc ov [y100,(3:Int),y102,y103,y104,y105] s0 b106 t T107)(h4:b106=true)(h5:out=false)(h6:aAq dl sk dc ov [y100,(3:Int),y102,y103,y104,y105] m108 T107 T109)(h7:inR (((i+1):Nat):Int))(eout':out'=((3:Int) == (3:Int)))(ei':i'=(i+1))(et'e:aL t'=(aL T109))(et'k:t'.length=T109.length):aC Tp 7 eH (bS dl sk dc ov s0 s1 out tot i (aL t) t.length) .normal (bS dl sk dc ov s0 s1 out' tot i' (aL t') t'.length):=by
 subst eout' ei';have k1:=mq [0,1,2,3,4,5,6] 10 h3;have k2:=fk 10 oF rfl;have k3:=mq [0,1,2,3,4,5,6] 18 h6;have raw:aC Tp 7 eH (bS dl sk dc ov s0 s1 out tot i (aL t) t.length) .normal (bS dl sk dc ov s0 s1 ((3:Int) == (3:Int)) tot (i+1) (aL T109) T109.length):=aC.fi ⟨(rng [(0,4),(10,11),(24,26)]),[7,8],[],[]⟩ [bT,.x (dcE y100 3 y102 y103 y104 y105),k1.o,bT,bF,bF,bF,bF,k2.o,k3.o,.c (pI tot) []] (gc h7 (gc (fk 26 (bJj tot m108) rfl) (gc k3 (gc bJf (gc k2 (g4c h5 (gc h4 (gc k1 (gc (aT (i:=i) h2 h1) (gc (bH (i:=i) h2 h1) (gc (bR (k:=6) (i:=(i:Int)) (by decide) h2 (kQ1 _) h1) (gc (aV h0) gn))))))))))))
 exact raw.cast (by rw [et'e,et'k])
theorem bBt(h0:(i:Int)<(dc.length:Int))(h1:dc[i]? = some [y100,(4:Int),y102,y103,y104,y105])(h2:uni 6 dc)(h3:aAo dl sk dc ov [y100,(4:Int),y102,y103,y104,y105] s0 b106 t T107)(h4:b106=true)(h5:out=true)(h6:aAq dl sk dc ov [y100,(4:Int),y102,y103,y104,y105] m108 T107 T109)(h7:inR (tot+m108))(h8:inR (((i+1):Nat):Int))(etot':tot'=(tot+m108))(ei':i'=(i+1))(et'e:aL t'=(aL T109))(et'k:t'.length=T109.length):aC Tp 7 eH (bS dl sk dc ov s0 s1 out tot i (aL t) t.length) .normal (bS dl sk dc ov s0 s1 true tot' i' (aL t') t'.length):=by
 subst etot' ei';have k1:=mq [0,1,2,3,4,5,6] 10 h3;have k2:=fk 10 oF rfl;have k3:=mq [0,1,2,3,4,5,6] 18 h6;have raw:aC Tp 7 eH (bS dl sk dc ov s0 s1 out tot i (aL t) t.length) .normal (bS dl sk dc ov s0 s1 true (tot+m108) (i+1) (aL T109) T109.length):=aC.fi ⟨(rng [(0,4),(10,11),(24,26)]),[7,8],[],[(8,0)]⟩ [bT,.x (dcE y100 4 y102 y103 y104 y105),k1.o,bT,bT,bT,bT,bT,k2.o,k3.o,.c (pI (tot+m108)) []] (gc h8 (gc (fk 26 (aJv tot m108 h7) rfl) (gc k3 (gc bJg (gc k2 (g4c h5 (gc h4 (gc k1 (gc (aT (i:=i) h2 h1) (gc (bH (i:=i) h2 h1) (gc (bR (k:=6) (i:=(i:Int)) (by decide) h2 (kQ1 _) h1) (gc (aV h0) gn))))))))))))
 exact raw.cast (by rw [et'e,et'k])
theorem bBu(h0:(i:Int)<(dc.length:Int))(h1:dc[i]? = some [y100,(4:Int),y102,y103,y104,y105])(h2:uni 6 dc)(h3:aAo dl sk dc ov [y100,(4:Int),y102,y103,y104,y105] s0 b106 t T107)(h4:b106=true)(h5:out=false)(h6:aAq dl sk dc ov [y100,(4:Int),y102,y103,y104,y105] m108 T107 T109)(h7:inR (tot+m108))(h8:inR (((i+1):Nat):Int))(eout':out'=((4:Int) == (3:Int)))(etot':tot'=(tot+m108))(ei':i'=(i+1))(et'e:aL t'=(aL T109))(et'k:t'.length=T109.length):aC Tp 7 eH (bS dl sk dc ov s0 s1 out tot i (aL t) t.length) .normal (bS dl sk dc ov s0 s1 out' tot' i' (aL t') t'.length):=by
 subst eout' etot' ei';have k1:=mq [0,1,2,3,4,5,6] 10 h3;have k2:=fk 10 oF rfl;have k3:=mq [0,1,2,3,4,5,6] 18 h6;have raw:aC Tp 7 eH (bS dl sk dc ov s0 s1 out tot i (aL t) t.length) .normal (bS dl sk dc ov s0 s1 ((4:Int) == (3:Int)) (tot+m108) (i+1) (aL T109) T109.length):=aC.fi ⟨(rng [(0,4),(10,11),(24,26)]),[7,8],[],[]⟩ [bT,.x (dcE y100 4 y102 y103 y104 y105),k1.o,bT,bF,bF,bF,bF,k2.o,k3.o,.c (pI (tot+m108)) []] (gc h8 (gc (fk 26 (aJv tot m108 h7) rfl) (gc k3 (gc bJg (gc k2 (g4c h5 (gc h4 (gc k1 (gc (aT (i:=i) h2 h1) (gc (bH (i:=i) h2 h1) (gc (bR (k:=6) (i:=(i:Int)) (by decide) h2 (kQ1 _) h1) (gc (aV h0) gn))))))))))))
 exact raw.cast (by rw [et'e,et'k])
theorem aSi(h0:(i:Int)<(dc.length:Int))(h1:dc[i]? = some [y100,y101,y102,y103,y104,y105])(h2:uni 6 dc)(h3:aAo dl sk dc ov [y100,y101,y102,y103,y104,y105] s0 b106 t T107)(h4:b106=false)(h5:inR (((i+1):Nat):Int))(ei':i'=(i+1))(et'e:aL t'=(aL T107))(et'k:t'.length=T107.length):aC Tp 7 eH (bS dl sk dc ov s0 s1 out tot i (aL t) t.length) .normal (bS dl sk dc ov s0 s1 out tot i' (aL t') t'.length):=by
 subst ei';have k1:=mq [0,1,2,3,4,5,6] 10 h3;have raw:aC Tp 7 eH (bS dl sk dc ov s0 s1 out tot i (aL t) t.length) .normal (bS dl sk dc ov s0 s1 out tot (i+1) (aL T107) T107.length):=aC.fi ⟨(rng [(0,4),(10,11),(24,26)]),[7,8],[],[]⟩ [bT,.x (dcE y100 y101 y102 y103 y104 y105),k1.o,bF] (gc h5 (gc h4 (gc k1 (gc (aT (i:=i) h2 h1) (gc (bH (i:=i) h2 h1) (gc (bR (k:=6) (i:=(i:Int)) (by decide) h2 (kQ1 _) h1) (gc (aV h0) gn)))))))
 exact raw.cast (by rw [et'e,et'k])
theorem aSj(h0:(dc.length:Int)≤(i:Int)):aC Tp 7 eH (bS dl sk dc ov s0 s1 out tot i (aL t) t.length) (.exit 0) (bS dl sk dc ov s0 s1 out tot i (aL t) t.length):=by
 exact aC.fi ⟨(rng [(0,4),(10,11),(24,26)]),[7,8],[],[]⟩ [bF] (gc (bA h0) gn)
def eY(dl:Int)(sk:Lqq)(dc:Lqq)(on:Nat)(oc:List PV)(i:Nat)(te:List (Value × PV))(tk:Nat):St:=⟨fr 48 [(2,(.p dR)),(3,(.ptr 7 0)),(4,(.own 8)),(15,(.p (fS dc))),(16,(pI (dc.length:Int))),(17,(pI (i:Int)))],[some (vB0 dl sk dc),some (.box 33 [(.p dR)]),some vB2,some (.mp te tk),some (.box 207 [(.mp 3)]),some (vB5 dl sk dc),some vB6,some vB2,some (.row 3 on oc)]⟩
theorem bVb{o'0:List Int}{t'2:Lqb}(hl0:aH Tp 0 oE (eY dl sk dc 0 [] 0 (aL ([]:Lqb)) 0) (.exit 0) (eY dl sk dc o'0.length (o'0.map aB) i'1 (aL t'2) t'2.length)):FV Tp 83 [(.rp (aX dl sk dc) 0)] base (.own base) [(base,(.row 3 o'0.length (o'0.map aB)))]:=by
 have k1:=mN [] 0 (aKc (dl:=dl) (sk:=sk) (dc:=dc));exact FV.fi Tryz.func83 [k1.o,.x (fS dc),hl0.k 1 ⟨(rng [(0,2),(5,10),(18,29)]),[0,1,2,3,4,5,6,7,8],[],[(4,3)]⟩] (gc hl0.code (gr (fS dc) (gc k1 gn)))
theorem bBv{o':List Int}(h0:(i:Int)<(dc.length:Int))(h1:dc[i]? = some [y100,y101,y102,y103,y104,y105])(h2:uni 6 dc)(h3:aNv dl sk dc dR [y100,y101,y102,y103,y104,y105] [z106,z107,z108,z109,z110,z111] b112 t T113)(h4:(jR y101)=true)(h5:sF dl sk dc dR [y100,y101,y102,y103,y104,y105] b114 T113 T115)(h6:b114=true)(h7:b112=false)(h8:[(aB y100)].length=1*1∧o.length+1≤1000000)(h9:inR (((i+1):Nat):Int))(eo'n:o'.length=(o.length+1))(eo'c:o'.map aB=((o.map aB)++[(aB y100)]))(ei':i'=(i+1))(et'e:aL t'=(aL T115))(et'k:t'.length=T115.length):aC Tp 0 oE (eY dl sk dc o.length (o.map aB) i (aL t) t.length) .normal (eY dl sk dc o'.length (o'.map aB) i' (aL t') t'.length):=by
 subst ei';have k1:=mq [0,1,2,3,4,5,6] 10 h3;have k2:=fk 11 (yE y101) rfl;have k3:=mq [0,1,2,3,4,5,6] 11 h5;have raw:aC Tp 0 oE (eY dl sk dc o.length (o.map aB) i (aL t) t.length) .normal (eY dl sk dc (o.length+1) ((o.map aB)++[(aB y100)]) (i+1) (aL T115) T115.length):=aC.fi ⟨(rng [(0,2),(5,10),(18,29)]),[0,1,2,3,4,5,6,7,12],[],[]⟩ [bT,.x (dcE y100 y101 y102 y103 y104 y105),k1.o,k2.o,bT,bT,bT,bT,k3.o,bT,bT,bT,bT,bT] (gc h9 (gc h8 (gc (bI h7) (g3c h6 (gc h4 (gc k3 (g4c h4 (gc k2 (gc k1 (gc (aT (i:=i) h2 h1) (gc (bH (i:=i) h2 h1) (gc (bR (k:=6) (i:=(i:Int)) (by decide) h2 (kQ1 _) h1) (gc (aV h0) gn)))))))))))))
 exact raw.cast (by rw [eo'n,eo'c,et'e,et'k])
theorem bBw(h0:(i:Int)<(dc.length:Int))(h1:dc[i]? = some [y100,y101,y102,y103,y104,y105])(h2:uni 6 dc)(h3:aNv dl sk dc dR [y100,y101,y102,y103,y104,y105] [z106,z107,z108,z109,z110,z111] b112 t T113)(h4:(jR y101)=true)(h5:sF dl sk dc dR [y100,y101,y102,y103,y104,y105] b114 T113 T115)(h6:b114=true)(h7:b112=true)(h8:inR (((i+1):Nat):Int))(ei':i'=(i+1))(et'e:aL t'=(aL T115))(et'k:t'.length=T115.length):aC Tp 0 oE (eY dl sk dc o.length (o.map aB) i (aL t) t.length) .normal (eY dl sk dc o.length (o.map aB) i' (aL t') t'.length):=by
 subst ei';have k1:=mq [0,1,2,3,4,5,6] 10 h3;have k2:=fk 11 (yE y101) rfl;have k3:=mq [0,1,2,3,4,5,6] 11 h5;have raw:aC Tp 0 oE (eY dl sk dc o.length (o.map aB) i (aL t) t.length) .normal (eY dl sk dc o.length (o.map aB) (i+1) (aL T115) T115.length):=aC.fi ⟨(rng [(0,2),(5,10),(18,29)]),[0,1,2,3,4,5,6,7,8],[],[]⟩ [bT,.x (dcE y100 y101 y102 y103 y104 y105),k1.o,k2.o,bT,bT,bT,bT,k3.o,bT,bT,bT,bT,bF] (gc h8 (gc (aI h7) (g3c h6 (gc h4 (gc k3 (g4c h4 (gc k2 (gc k1 (gc (aT (i:=i) h2 h1) (gc (bH (i:=i) h2 h1) (gc (bR (k:=6) (i:=(i:Int)) (by decide) h2 (kQ1 _) h1) (gc (aV h0) gn))))))))))))
 exact raw.cast (by rw [et'e,et'k])
theorem bBx(h0:(i:Int)<(dc.length:Int))(h1:dc[i]? = some [y100,y101,y102,y103,y104,y105])(h2:uni 6 dc)(h3:aNv dl sk dc dR [y100,y101,y102,y103,y104,y105] [z106,z107,z108,z109,z110,z111] b112 t T113)(h4:(jR y101)=true)(h5:sF dl sk dc dR [y100,y101,y102,y103,y104,y105] b114 T113 T115)(h6:b114=false)(h7:inR (((i+1):Nat):Int))(ei':i'=(i+1))(et'e:aL t'=(aL T115))(et'k:t'.length=T115.length):aC Tp 0 oE (eY dl sk dc o.length (o.map aB) i (aL t) t.length) .normal (eY dl sk dc o.length (o.map aB) i' (aL t') t'.length):=by
 subst ei';have k1:=mq [0,1,2,3,4,5,6] 10 h3;have k2:=fk 11 (yE y101) rfl;have k3:=mq [0,1,2,3,4,5,6] 11 h5;have raw:aC Tp 0 oE (eY dl sk dc o.length (o.map aB) i (aL t) t.length) .normal (eY dl sk dc o.length (o.map aB) (i+1) (aL T115) T115.length):=aC.fi ⟨(rng [(0,2),(5,10),(18,29)]),[0,1,2,3,4,5,6,7,8],[],[]⟩ [bT,.x (dcE y100 y101 y102 y103 y104 y105),k1.o,k2.o,bT,bT,bT,bT,k3.o,bT,bF,bF,bF] (gc h7 (g3c h6 (gc h4 (gc k3 (g4c h4 (gc k2 (gc k1 (gc (aT (i:=i) h2 h1) (gc (bH (i:=i) h2 h1) (gc (bR (k:=6) (i:=(i:Int)) (by decide) h2 (kQ1 _) h1) (gc (aV h0) gn)))))))))))
 exact raw.cast (by rw [et'e,et'k])
theorem bBy(h0:(i:Int)<(dc.length:Int))(h1:dc[i]? = some [y100,y101,y102,y103,y104,y105])(h2:uni 6 dc)(h3:aNv dl sk dc dR [y100,y101,y102,y103,y104,y105] [z106,z107,z108,z109,z110,z111] b112 t T113)(h4:(jR y101)=false)(h5:inR (((i+1):Nat):Int))(ei':i'=(i+1))(et'e:aL t'=(aL T113))(et'k:t'.length=T113.length):aC Tp 0 oE (eY dl sk dc o.length (o.map aB) i (aL t) t.length) .normal (eY dl sk dc o.length (o.map aB) i' (aL t') t'.length):=by
 subst ei';have k1:=mq [0,1,2,3,4,5,6] 10 h3;have k2:=fk 11 (yE y101) rfl;have raw:aC Tp 0 oE (eY dl sk dc o.length (o.map aB) i (aL t) t.length) .normal (eY dl sk dc o.length (o.map aB) (i+1) (aL T113) T113.length):=aC.fi ⟨(rng [(0,2),(5,10),(18,29)]),[0,1,2,3,4,5,6,7,8],[],[]⟩ [bT,.x (dcE y100 y101 y102 y103 y104 y105),k1.o,k2.o,bF,bF,bF,bF,bF] (gc h5 (g5c h4 (gc k2 (gc k1 (gc (aT (i:=i) h2 h1) (gc (bH (i:=i) h2 h1) (gc (bR (k:=6) (i:=(i:Int)) (by decide) h2 (kQ1 _) h1) (gc (aV h0) gn))))))))
 exact raw.cast (by rw [et'e,et'k])
theorem bBz(h0:(dc.length:Int)≤(i:Int)):aC Tp 0 oE (eY dl sk dc o.length (o.map aB) i (aL t) t.length) (.exit 0) (eY dl sk dc o.length (o.map aB) i (aL t) t.length):=by
 exact aC.fi ⟨(rng [(0,2),(5,10),(18,29)]),[0,1,2,3,4,5,6,7,8],[],[]⟩ [bF] (gc (bA h0) gn)
end
section
def aSg(dl:Int)(oc:List Int)(dc:Lqq)(bib:Int)(x:List Int):Bool:=decide (dK x≤4) && (dB x == bib && (dY dl oc dc x && (!(dK x == 4) || aFs dl oc dc x)))
def byI(k t m:Int):Int:=if k=1 then t-m else if k=2 then t+1200*m else if k=3 then t else t+m
def aFq(dl:Int)(oc:List Int)(dc:Lqq)(bib:Int)(acc:Bool × Int)(x:List Int):Bool × Int:=if aSg dl oc dc bib x then (acc.1 || dK x == 3,byI (dK x) acc.2 (pH dl oc dc x)) else acc
def aJu(dl:Int)(oc:List Int)(dc:Lqq)(bib time:Int):Bool × Int:=dc.foldl (aFq dl oc dc bib) (time == -1,time)
def cE(dl:Int)(oc:List Int)(dc:Lqq)(bib time:Int):Int × Bool:=if (aJu dl oc dc bib time).1 then (0,true) else (max 0 (aJu dl oc dc bib time).2,false)
def qV(dl:Int)(dc:Lqq)(x:List Int):Bool:=jR (dK x) && (dY dl [] dc x && (vG dl [] dc x).isNone)
def aN(dl:Int)(dc:Lqq):List Int:=(dc.filter (qV dl dc)).map dN
section
variable {dl:Int} {sk dc:Lqq} {oc:List Int} {ov:PV}
theorem bOm(hd:bZ dc)(hov:∀ n,tV ov n (oc.contains n)){x:List Int}(hx:x∈dc){T:Lqb}(hT:cL dl oc dc T):∃ T' z0 z1 z2 z3 z4 z5,cL dl oc dc T'∧(vG dl oc dc x).getD zero6=[z0,z1,z2,z3,z4,z5]∧aNv dl sk dc ov x [z0,z1,z2,z3,z4,z5] (vG dl oc dc x).isSome T T':=by
 obtain ⟨T',h1,h2⟩:=cBq (sk:=sk) hd hov hx T hT;cases hr:vG dl oc dc x with
 | none =>
  rw [hr] at h2
  exact ⟨T',0,0,0,0,0,0,h1,rfl,h2⟩
 | some z =>
  have hz:z.length=6:=by
   rw [aDz hd hx] at hr
   exact iG hd _ z (tQ hr)
  obtain ⟨a,b,c,d,e,f,rfl⟩:=len6 hz;rw [hr] at h2
  exact ⟨T',a,b,c,d,e,f,h1,rfl,h2⟩
theorem aNu(hd:bZ dc):∀ (n:Nat) (x:List Int),x∈dc→10000-dN x≤(n:Int)→0≤pH dl oc dc x∧pH dl oc dc x≤36000
 | 0,x,hx,h=>by have:=eX hd hx;omega
 | n+1,x,hx,h=>by
  rw [aWi hd hx];cases hr:aKd dl oc dc x with
  | none =>
   have h4:=(kF.1 (hd.rng x hx)).2.2.2;have:nC (x.getD 1 0)≤36000:=by unfold nC;split <;> omega
   show 0≤x.getD 4 0∧x.getD 4 0≤36000;omega
  | some z =>
   have hz:z∈bY dc (dN x):=by
    rw [aEa hd hx] at hr
    exact tQ hr
   obtain ⟨a1,a2⟩:=sE hd hx hz;exact aNu hd n z a1 (by omega)
theorem aWb(hd:bZ dc){x:List Int}(hx:x∈dc):0≤pH dl oc dc x∧pH dl oc dc x≤36000:=aNu hd 10000 x hx (by have:=eX hd hx;omega)
theorem cBp(hd:bZ dc)(hov:∀ n,tV ov n (oc.contains n))(bib:Int){x:List Int}(hx:x∈dc){T:Lqb}(hT:cL dl oc dc T):∃ T',cL dl oc dc T'∧aAo dl sk dc ov x bib (aSg dl oc dc bib x) T T':=by
 obtain ⟨T1,h1,c1⟩:=bJn (sk:=sk) hd hov hx T hT;obtain ⟨T2,h2,c2⟩:=cBs (sk:=sk) hd hov hx T1 h1;obtain ⟨a,k,c,d,e,f,rfl⟩:=len6 (hd.ud x hx);unfold aSg
 by_cases hk:k≤4
 ·have hk':decide (k≤4)=true:=decide_eq_true hk
  rw [show decide (dK [a,k,c,d,e,f]≤4)=true from hk',hZ]
  by_cases hb:d=bib
  ·rw [show (dB [a,k,c,d,e,f] == bib)=true by simpa using hb,hZ]
   cases hc:dY dl oc dc [a,k,c,d,e,f] with
   | false =>
    rw [hc] at c1
    exact ⟨T1,h1,bUr hk' hb c1 rfl⟩
   | true =>
    rw [hc] at c1
    rw [hZ]
    by_cases h4:k=4
    ·rw [show (dK [a,k,c,d,e,f] == 4)=true by simpa using h4,Bool.not_true,Bool.false_or]
     exact ⟨T2,h2,bUq hk' hb c1 rfl h4 c2⟩
    ·rw [show (dK [a,k,c,d,e,f] == 4)=false by simpa using h4,Bool.not_false,Bool.true_or]
     exact ⟨T1,h1,bUp hk' hb c1 rfl h4⟩
  ·rw [show (dB [a,k,c,d,e,f] == bib)=false by simpa using hb,Bool.false_and]
   exact ⟨T,hT,bUs hk' hb⟩
 ·have hk':decide (k≤4)=false:=decide_eq_false hk
  rw [show decide (dK [a,k,c,d,e,f]≤4)=false from hk',Bool.false_and]
  exact ⟨T,hT,bUt hk'⟩
theorem bJb(hd:bZ dc)(hov:∀ n,tV ov n (oc.contains n))(s0 s1:Int)(hs : -1≤s1∧s1≤360000){T:Lqb}(hT:cL dl oc dc T):∃ T',cL dl oc dc T'∧aFr dl sk dc ov [s0,s1] (cE dl oc dc s0 s1).1 (cE dl oc dc s0 s1).2 T T':=by
 have hlen:=hd.len;obtain ⟨acc,⟨h1,h2,_⟩,h3⟩:=aH.ex (P:=Tp) (k:=7) (b:=sub (cd Tryz.f134) [1,1,0,1,0,0]) (e := .exit 0) (fun i (a:(Bool × Int) × Lqb)=>bS dl sk dc ov s0 s1 a.1.1 a.1.2 i (aL a.2) a.2.length)
  (fun a=>bS dl sk dc ov s0 s1 a.1.1 a.1.2 dc.length (aL a.2) a.2.length)
  (fun i a=>cL dl oc dc a.2∧a.1=(dc.take i).foldl (aFq dl oc dc s0) (s1 == -1,s1) ∧ -1-36000*(i:Int)≤a.1.2∧a.1.2≤360000+43200000*(i:Int)) (by simp) dc.length
  (fun i acc hi hI=>by
   obtain ⟨⟨out,tot⟩,T1⟩:=acc;obtain ⟨h1,h2,h3,h4⟩:=hI;dsimp only at h1 h2 h3 h4
   have hm:=gS hi;obtain ⟨a,k,c,d,e,f,hy⟩:=len6 (hd.ud _ hm);have hx:dc[i]? = some [a,k,c,d,e,f]:=by rw [kQ0 hi,hy]
   rw [hy] at hm
   have et:(dc.take (i+1)).foldl (aFq dl oc dc s0) (s1 == -1,s1)=aFq dl oc dc s0 (out,tot) [a,k,c,d,e,f]:=by
    rw [List.take_add_one,hx,aJh,← h2];rfl
   obtain ⟨T2,q1,q2⟩:=cBp (sk:=sk) hd hov s0 hm h1;rw [et];unfold aFq;cases hh:aSg dl oc dc s0 [a,k,c,d,e,f] with
   | false =>
    rw [hh] at q2
    exact ⟨((out,tot),T2),⟨q1,by simp,by dsimp only;omega,by dsimp only;omega⟩,aSi (by omega) hx hd.ud q2 rfl (aO (by omega)) rfl rfl rfl⟩
   | true =>
    rw [hh] at q2
    rw [if_pos rfl];obtain ⟨T3,q3,q4⟩:=cBt (sk:=sk) hd hov hm T2 q1;have hb:=aWb (dl:=dl) (oc:=oc) hd hm;revert q4 hb;generalize pH dl oc dc [a,k,c,d,e,f]=m;intro q4 hb;have hk:0≤k∧k≤4:=by
     have h5:=(kF.1 (hd.rng _ hm)).2.1;unfold aSg at hh
     rw [kQ7] at hh
     exact ⟨h5.1,of_decide_eq_true hh.1⟩
    have hk5:k=0∨k=1∨k=2∨k=3∨k=4:=by omega
    clear hh
    rcases hk5 with rfl | rfl | rfl | rfl | rfl
    ·have hI:∀ q:Bool,-1-36000*((i+1:Nat):Int)≤tot+m∧tot+m≤360000+43200000*((i+1:Nat):Int):=fun _=>by omega
     cases out with
     | true=>exact ⟨((true,tot+m),T3),⟨q3,rfl,(hI true).1,(hI true).2⟩,bBl (by omega) hx hd.ud q2 rfl rfl q4 (by show inR (tot+m);unfold inR;omega) (aO (by omega)) rfl rfl rfl rfl⟩
     | false=>exact ⟨((false,tot+m),T3),⟨q3,rfl,(hI true).1,(hI true).2⟩,bBm (by omega) hx hd.ud q2 rfl rfl q4 (by show inR (tot+m);unfold inR;omega) (aO (by omega)) rfl rfl rfl rfl rfl⟩
    ·have hI:∀ q:Bool,-1-36000*((i+1:Nat):Int)≤tot-m∧tot-m≤360000+43200000*((i+1:Nat):Int):=fun _=>by omega
     cases out with
     | true=>exact ⟨((true,tot-m),T3),⟨q3,rfl,(hI true).1,(hI true).2⟩,bBn (by omega) hx hd.ud q2 rfl rfl q4 (by show inR (tot-m);unfold inR;omega) (aO (by omega)) rfl rfl rfl rfl⟩
     | false=>exact ⟨((false,tot-m),T3),⟨q3,rfl,(hI true).1,(hI true).2⟩,bBo (by omega) hx hd.ud q2 rfl rfl q4 (by show inR (tot-m);unfold inR;omega) (aO (by omega)) rfl rfl rfl rfl rfl⟩
    ·have hI:∀ q:Bool,-1-36000*((i+1:Nat):Int)≤tot+1200*m∧tot+1200*m≤360000+43200000*((i+1:Nat):Int):=fun _=>by omega
     cases out with
     | true=>exact ⟨((true,tot+1200*m),T3),⟨q3,rfl,(hI true).1,(hI true).2⟩,bBp (by omega) hx hd.ud q2 rfl rfl q4 ⟨by show inR (1200*m);unfold inR;omega,by show inR (tot+1200*m);unfold inR;omega⟩ (aO (by omega)) rfl rfl rfl rfl⟩
     | false=>exact ⟨((false,tot+1200*m),T3),⟨q3,rfl,(hI true).1,(hI true).2⟩,bBq (by omega) hx hd.ud q2 rfl rfl q4 ⟨by show inR (1200*m);unfold inR;omega,by show inR (tot+1200*m);unfold inR;omega⟩ (aO (by omega)) rfl rfl rfl rfl rfl⟩
    ·have hI:∀ q:Bool,-1-36000*((i+1:Nat):Int)≤tot∧tot≤360000+43200000*((i+1:Nat):Int):=fun _=>by omega
     cases out with
     | true=>exact ⟨((true,tot),T3),⟨q3,rfl,(hI true).1,(hI true).2⟩,bBr (by omega) hx hd.ud q2 rfl rfl q4 (aO (by omega)) rfl rfl rfl⟩
     | false=>exact ⟨((true,tot),T3),⟨q3,rfl,(hI true).1,(hI true).2⟩,bBs (by omega) hx hd.ud q2 rfl rfl q4 (aO (by omega)) rfl rfl rfl rfl⟩
    ·have hI:∀ q:Bool,-1-36000*((i+1:Nat):Int)≤tot+m∧tot+m≤360000+43200000*((i+1:Nat):Int):=fun _=>by omega
     cases out with
     | true=>exact ⟨((true,tot+m),T3),⟨q3,rfl,(hI true).1,(hI true).2⟩,bBt (by omega) hx hd.ud q2 rfl rfl q4 (by show inR (tot+m);unfold inR;omega) (aO (by omega)) rfl rfl rfl rfl⟩
     | false=>exact ⟨((false,tot+m),T3),⟨q3,rfl,(hI true).1,(hI true).2⟩,bBu (by omega) hx hd.ud q2 rfl rfl q4 (by show inR (tot+m);unfold inR;omega) (aO (by omega)) rfl rfl rfl rfl rfl⟩)
  (fun acc hI=>aSj (by omega)) (acc:=((s1 == -1,s1),T)) ⟨hT,by simp,by dsimp only;omega,by dsimp only;omega⟩
 obtain ⟨⟨out,tot⟩,T1⟩:=acc;dsimp only at h1 h2 h3
 rw [List.take_length] at h2
 have e:aJu dl oc dc s0 s1=(out,tot):=h2.symm;unfold cE;rw [e];cases out with
 | true=>exact ⟨T1,h1,bUz h3 rfl⟩
 | false=>exact ⟨T1,h1,bVa h3 rfl (by simp) (by simp [aAp];omega)⟩
theorem qE(hd:bZ dc){base:Nat}:FV Tp 83 [pG dl sk dc] base (.own base) [(base,.row 3 (aN dl dc).length ((aN dl dc).map aB))]:=by
 have hlen:=hd.len;have hov:=aJz;obtain ⟨acc,⟨h1,h2⟩,h3⟩:=aH.ex (P:=Tp) (k:=0) (b:=sub (cd Tryz.f83) [1,1,1,0,1,0,0]) (e := .exit 0) (fun i (a:List Int × Lqb)=>eY dl sk dc a.1.length (a.1.map aB) i (aL a.2) a.2.length)
  (fun a=>eY dl sk dc a.1.length (a.1.map aB) dc.length (aL a.2) a.2.length)
  (fun i a=>cL dl [] dc a.2∧a.1=((dc.take i).filter (qV dl dc)).map dN) (by simp) dc.length
  (fun i acc hi hI=>by
   obtain ⟨o,T1⟩:=acc;obtain ⟨h1,h2⟩:=hI;dsimp only at h1 h2
   have hm:=gS hi;obtain ⟨a,k,c,d,e,f,hy⟩:=len6 (hd.ud _ hm);have hx:dc[i]? = some [a,k,c,d,e,f]:=by rw [kQ0 hi,hy]
   rw [hy] at hm
   have ho:o.length≤1000:=by
    rw [h2,eR];have:=tR (qV dl dc) (dc.take i);rw [mY] at this;omega
   have et:((dc.take (i+1)).filter (qV dl dc)).map dN=o++if qV dl dc [a,k,c,d,e,f] then [a] else []:=by
    rw [List.take_add_one,hx,lR,gJ,← h2]
    congr 1
    show (List.filter (qV dl dc) [[a,k,c,d,e,f]]).map dN=_;cases hq:qV dl dc [a,k,c,d,e,f] <;> simp [hq]
   rw [et];obtain ⟨T2,z0,z1,z2,z3,z4,z5,q1,_,q2⟩:=bOm (sk:=sk) hd hov hm h1;obtain ⟨T3,q3,q4⟩:=bJn (sk:=sk) hd hov hm T2 q1;cases ha:jR k with
   | false =>
    have hb:qV dl dc [a,k,c,d,e,f]=false:=by unfold qV;rw [show jR (dK [a,k,c,d,e,f])=false from ha,Bool.false_and]
    rw [hb];exact ⟨(o,T2),⟨q1,by simp⟩,bBy (by omega) hx hd.ud q2 ha (aO (by omega)) rfl rfl rfl⟩
   | true =>
    have hb:qV dl dc [a,k,c,d,e,f]=(dY dl [] dc [a,k,c,d,e,f] && (vG dl [] dc [a,k,c,d,e,f]).isNone):=by unfold qV;rw [show jR (dK [a,k,c,d,e,f])=true from ha,hZ]
    rw [hb];cases hc:dY dl [] dc [a,k,c,d,e,f] with
    | false =>
     rw [hc] at q4
     exact ⟨(o,T3),⟨q3,by simp⟩,bBx (by omega) hx hd.ud q2 ha q4 rfl (aO (by omega)) rfl rfl rfl⟩
    | true =>
     rw [hc] at q4
     cases hr:vG dl [] dc [a,k,c,d,e,f] with
     | some z =>
      rw [hr] at q2
      exact ⟨(o,T3),⟨q3,by simp⟩,bBw (by omega) hx hd.ud q2 ha q4 rfl rfl (aO (by omega)) rfl rfl rfl⟩
     | none =>
      rw [hr] at q2
      exact ⟨(o++[a],T3),⟨q3,by simp⟩,bBv (o:=o) (o':=o++[a]) (by omega) hx hd.ud q2 ha q4 rfl rfl ⟨rfl,by omega⟩ (aO (by omega)) (by simp) (by simp) rfl rfl rfl⟩)
  (fun acc hI=>bBz (by omega)) (acc:=([],[])) ⟨cL.nil,by simp⟩
 obtain ⟨o,T1⟩:=acc;dsimp only at h1 h2 h3
 rw [List.take_length] at h2
 rw [show aN dl dc=o from h2.symm]
 exact bVb h3
end
end
section
variable {u0 u1 u2 u3 u4 u5 x0 x1 x2 x3 x4 x5 u0'0 u1'1 u2'2 u3'3 u4'4 u5'5:Int}{base:Nat}
variable {dl:Int}{sk dc:Lqq}

noncomputable abbrev aDv:Code:=sub (cd Tryz.f128) [1,0,0,0]
theorem bJa:((0:Int) != (0:Int))=false:=by first | decide | simp
theorem bUl{bib y0 y1:Int}(h0:bG dl sk dc)(h1:uni 2 (aA sk)∧(aA sk).length≤1000)(h2:(aP (aA sk) 0).length≤1000)(h3:(0:Int)≤(bK (fun x=>decide (bib=x)) (aP (aA sk) 0)))(h4:(aA sk)[(bK (fun x=>decide (bib=x)) (aP (aA sk) 0)).toNat]? = some [y0,y1])(h5:0≤(bK (fun x=>decide (bib=x)) (aP (aA sk) 0)))(h6:uni 2 (aA sk)):FV Tp 135 [(.p (.agg (cR dl sk dc))),(pI bib)] base (.tup [(.rp (aX dl (aA sk) (aA dc)) 0),(.p (.agg [(aB y0),(aB y1)])),(pI 0)]) []:=by
 have k1:=fk 2 (jF dl sk dc h0) rfl;have k2:=fk 2 (oJ dl (aA sk) (aA dc) h1) rfl;exact FV.fi Tryz.func135 [k1.o,bF,.x (.agg (cR dl (aA sk) (aA dc))),k2.o,.c (pI (bK (fun x=>decide (bib=x)) (aP (aA sk) 0))) [],bF,.x (.sl ((aA sk).length) ((aA sk).flatten.map aB)),.x (.agg [(aB y0),(aB y1)])] (gc (aT (i:=(bK (fun x=>decide (bib=x)) (aP (aA sk) 0)).toNat) h6 h4) (gc (bH (i:=(bK (fun x=>decide (bib=x)) (aP (aA sk) 0)).toNat) h6 h4) (gc (bR (k:=2) (i:=(bK (fun x=>decide (bib=x)) (aP (aA sk) 0))) (by decide) h6 h5 h4) (gr (.sl ((aA sk).length) ((aA sk).flatten.map aB)) (gc (bA h3) (gt (FC Tp 126 [(.own 2),(pI bib)] [(2,(.row 3 ((aP (aA sk) 0).length) ((aP (aA sk) 0).map aB)))] 3 (pI (bK (fun x=>decide (bib=x)) (aP (aA sk) 0))) []) (fv (aEd (aP (aA sk) 0) bib h2)) (gc k2 (gr (.agg (cR dl (aA sk) (aA dc))) (gt (0+3≤(aX dl (aA sk) (aA dc)).length) (by first | decide | simp) (gc bJa (gc k1 gn)))))))))))
theorem bUm(h0:bG dl sk dc)(h1:bZ (aA dc)):FV Tp 19 [(.p (.agg (cR dl sk dc)))] base (.tup [(.p (aF (aN dl (aA dc)))),(pI 0)]) []:=by
 have k1:=fk 1 (jF dl sk dc h0) rfl;have k2:=fk 1 (qE (dl:=dl) (sk:=(aA sk)) (dc:=(aA dc)) h1) rfl;exact FV.frz (FMM.fi 0 ⟨[],[],[1],[]⟩ Tryz.func19 [k1.o,bF,k2.o] (gc k2 (gc bJa (gc k1 gn)))) (by kernel_rfl)
def kE(dl:Int)(sk:Lqq)(dc:Lqq)(u0:Int)(u1:Int)(u2:Int)(u3:Int)(u4:Int)(u5:Int):St:=⟨fr 26 [(0,(.rp (aX dl sk dc) 0)),(3,(.ptr 0 0))],[some (.box 44 [(pI u0),(pI u1),(pI u2),(pI u3),(pI u4),(pI u5)])]⟩
theorem bUn(hl0:aH Tp 0 aDv (kE dl sk dc x0 x1 x2 x3 x4 x5) (.exit 0) (kE dl sk dc u0'0 u1'1 u2'2 u3'3 u4'4 u5'5)):FV Tp 128 [(.rp (aX dl sk dc) 0),(.p (dcE x0 x1 x2 x3 x4 x5))] base (pI u3'3) []:=by
 exact FV.fi Tryz.func128 [hl0.k 4 ⟨(rng [(1,2),(4,20)]),[0],[],[]⟩] (gc hl0.code gn)
theorem bUo(hl0:aH Tp 0 aDv (kE dl sk dc x0 x1 x2 x3 x4 x5) .ret (dI (kE dl sk dc u0'0 u1'1 u2'2 u3'3 u4'4 u5'5) [(4,(pI 0))])):FV Tp 128 [(.rp (aX dl sk dc) 0),(.p (dcE x0 x1 x2 x3 x4 x5))] base (pI 0) []:=by
 exact FV.fi Tryz.func128 [hl0.k 4 ⟨(rng [(1,2),(4,20)]),[0],[],[]⟩] (gc hl0.code gn)
theorem bBi{y100 y101 y102 y103 y104 y105:Int}(h0:(decide (u1≤4))=false)(h1:cK .i64 (atF dc.reverse) (.int .i64 u5))(h2:(dS (atF dc.reverse) (.int .i64 u5))=true)(h3:fU (atF dc.reverse) (.int .i64 u5)=some (dcE y100 y101 y102 y103 y104 y105)):aC Tp 0 aDv (kE dl sk dc u0 u1 u2 u3 u4 u5) .normal (kE dl sk dc y100 y101 y102 y103 y104 y105):=by
 have k1:=fk 1 (eL u1) rfl;exact aC.fi ⟨(rng [(1,2),(4,20)]),[0],[],[]⟩ [k1.o,bT,.x (.mp (atF dc.reverse)),bT,.x (dcE y100 y101 y102 y103 y104 y105)] (gc h3 (gc h2 (gc h1 (gr (.mp (atF dc.reverse)) (gc (bI h0) (gc k1 gn))))))
theorem aHo(h0:(decide (u1≤4))=false)(h1:cK .i64 (atF dc.reverse) (.int .i64 u5))(h2:(dS (atF dc.reverse) (.int .i64 u5))=false):aC Tp 0 aDv (kE dl sk dc u0 u1 u2 u3 u4 u5) .ret (dI (kE dl sk dc u0 u1 u2 u3 u4 u5) [(4,(pI 0))]):=by
 have k1:=fk 1 (eL u1) rfl;exact aC.fi ⟨(rng [(1,2),(5,19)]),[0],[],[]⟩ [k1.o,bT,.x (.mp (atF dc.reverse)),bF] (gc h2 (gc h1 (gr (.mp (atF dc.reverse)) (gc (bI h0) (gc k1 gn)))))
theorem aHp(h0:(decide (u1≤4))=true):aC Tp 0 aDv (kE dl sk dc u0 u1 u2 u3 u4 u5) (.exit 0) (kE dl sk dc u0 u1 u2 u3 u4 u5):=by
 have k1:=fk 1 (eL u1) rfl;exact aC.fi ⟨(rng [(1,2),(4,20)]),[0],[],[]⟩ [k1.o,bF] (gc (aI h0) (gc k1 gn))
end
section
def kW(sk:Lqq)(bib:Int):Int:=bK (fun x=>decide (bib=x)) (aP sk 0)
theorem bUi{f:Lqq}{i:Nat}{c:Int}(h:(aP f 0)[i]? = some c):∃ x,f[i]? = some x∧x.getD 0 0=c:=by
 unfold aP at h
 rw [jA,kL] at h
 exact h
theorem bBh(sk:Lqq)(bib:Int):(∃ (i:Nat) (x:List Int),kW sk bib=(i:Int)∧sk[i]? = some x∧x.getD 0 0=bib)∨(kW sk bib = -1∧bib∉aP sk 0):=by
 unfold kW;cases h:(aP sk 0).findIdx? (fun x=>decide (bib=x)) with
 | none =>
  refine .inr ⟨iB h,fun hm => ?_⟩
  have:=List.findIdx?_eq_none_iff.1 h bib hm;simp at this
 | some i =>
  rw [iA h];obtain ⟨h1,h2,_⟩:=List.findIdx?_eq_some_iff_getElem.1 h;have h3:(aP sk 0)[i]? = some (aP sk 0)[i]:=kQ0 h1;obtain ⟨x,q1,q2⟩:=bUi h3;exact .inl ⟨i,x,rfl,q1,by rw [q2];exact (of_decide_eq_true h2).symm⟩
theorem bUj{dl:Int}{sk dc:Lqq}(h:bG dl sk dc):uni 2 (aA sk)∧(aA sk).length≤1000∧(aP (aA sk) 0).length≤1000:=by
 have:=h.len;refine ⟨mT h.us,by rw [cQ];omega,by rw [wR,cQ];omega⟩
theorem aSe{dl:Int}{sk dc:Lqq}(h:bG dl sk dc){bib:Int}{i:Nat}{s0 s1:Int}(hp:kW (aA sk) bib=(i:Int))(hs:(aA sk)[i]? = some [s0,s1]){base:Nat}:FV Tp 135 [.p (.agg (cR dl sk dc)),.p (aB bib)] base (.tup [pG dl (aA sk) (aA dc),.p (.agg [aB s0,aB s1]),.p (aB 0)]) []:=by
 obtain ⟨h1,h2,h3⟩:=bUj h;have hp':bK (fun x=>decide (bib=x)) (aP (aA sk) 0)=(i:Int):=hp
 exact bUl h ⟨h1,h2⟩ h3 (by rw [hp'];omega) (by rw [hp'];simpa using hs) (by rw [hp'];omega) h1
theorem sA{dl:Int}{sk dc:Lqq}(h:bG dl sk dc){base:Nat}:FV Tp 19 [.p (.agg (cR dl sk dc))] base (.tup [.p (aF (aN dl (aA dc))),.p (aB 0)]) []:=bUm h (eA h)
theorem aVz{q:Lqq}(hq:(q.map dN).Nodup):atF q=q.map fun x=>(.int .i64 (dN x),tX x):=by
 have key:∀ (q p:Lqq),((p++q).map dN).Nodup→q.foldl kX (p.map fun x=>(.int .i64 (dN x),tX x))=(p++q).map fun x=>(.int .i64 (dN x),tX x):=by
  intro q
  induction q with
  | nil=>intro p _;simp
  | cons x q ih =>
   intro p h;rw [rU];have hn:dS (p.map fun x=>((.int .i64 (dN x),tX x):Value × PV)) (.int .i64 (dN x))=false:=by
    unfold dS;rw [List.any_eq_false];intro e he;obtain ⟨y,hy,rfl⟩:=kQ9.1 he;rw [gJ,List.nodup_append] at h
    have:=h.2.2 (dN y) (kQ9.2 ⟨y,hy,rfl⟩) (dN x) (by simp)
    simpa [iZ] using this
   have hst:kX (p.map fun x=>((.int .i64 (dN x),tX x):Value × PV)) x=(p.map fun x=>((.int .i64 (dN x),tX x):Value × PV))++[(.int .i64 (dN x),tX x)]:=by
    unfold kX;rw [hn,if_neg (by simp)]
   rw [hst];have e:(p.map fun x=>((.int .i64 (dN x),tX x):Value × PV))++[(.int .i64 (dN x),tX x)]=(p++[x]).map fun x=>((.int .i64 (dN x),tX x):Value × PV):=by simp
   have e2:p++x::q=(p++[x])++q:=by simp
   rw [e,ih (p++[x]) (by rw [← e2];exact h),e2]
 exact key q [] (by simpa using hq)
theorem aNs{dc:Lqq}(h:bZ dc):(dc.reverse.map dN).Nodup:=by
 rw [List.map_reverse,List.Nodup,List.pairwise_reverse,List.pairwise_map];exact h.up.imp fun h=>by omega
theorem wP{dc:Lqq}(h:bZ dc){n:Int}(hn:inR n):cK .i64 (atF dc.reverse) (.int .i64 n):=by
 have ha:yH (atF dc.reverse):=bKj fun x hx=>by have:=eX h (aAk.1 hx);omega
 refine ⟨ha.ky,?_,ha.nd⟩;show (decide (IntKind.i64=IntKind.i64) && (Lit.int .i64 n).wf)=true;have:(Lit.int .i64 n).wf=true:=by
  have e1:IntKind.i64.min = -9223372036854775808:=rfl;have e2:IntKind.i64.max=9223372036854775807:=rfl;unfold inR at hn
  show (decide _ && decide _)=true;rw [kQ7,decide_eq_true_eq,decide_eq_true_eq,e1,e2];omega
 rw [this];rfl
theorem aSf{dc:Lqq}(h:bZ dc){x:List Int}(hx:x∈dc):dS (atF dc.reverse) (.int .i64 (dN x))=true∧fU (atF dc.reverse) (.int .i64 (dN x))=some (tX x):=by
 rw [aVz (aNs h)];have hf:dc.reverse.find? (fun y=>decide (dN y=dN x))=some x:=by
  cases hf:dc.reverse.find? (fun y=>decide (dN y=dN x)) with
  | none =>
   have:=xT.1 hf x (aAk.2 hx);simp at this
  | some y =>
   have h1:=tQ hf;have h2:dN y=dN x:=by simpa using aNj hf
   rw [aBc h (aAk.1 h1) hx h2]
 constructor
 ·unfold dS
  rw [List.any_map];exact List.any_eq_true.2 ⟨x,aAk.2 hx,by simp [iZ]⟩
 ·unfold fU
  rw [List.find?_map];have e:(fun e:Value × PV=>decide (iZ e.1=iZ (Value.int IntKind.i64 (dN x)))) ∘ (fun x:List Int=>((Value.int .i64 (dN x),tX x):Value × PV))=fun y=>decide (dN y=dN x):=rfl
  rw [e,hf];rfl
theorem aWa{dc:Lqq}(h:bZ dc){n:Int}(hn:∀ x∈dc,dN x≠n):dS (atF dc.reverse) (.int .i64 n)=false:=by
 rw [aVz (aNs h)];unfold dS;rw [List.any_map,List.any_eq_false];intro x hx;have:=hn x (aAk.1 hx);show ¬ (decide (dN x=n))=true;simpa using this
def ofN(dc:Lqq)(n:Int):Option (List Int):=dc.find? fun x=>dN x == n
theorem sC{dc:Lqq}{n:Int}{x:List Int}(h:ofN dc n=some x):x∈dc∧dN x=n:=⟨tQ h,by simpa using aNj h⟩
theorem aNt{dc:Lqq}{n:Int}(h:ofN dc n=none):∀ x∈dc,dN x≠n:=fun x hx=>by simpa using xT.1 h x hx
theorem aBb{dc:Lqq}(hd:bZ dc){x:List Int}(hx:x∈dc):ofN dc (dN x)=some x:=by
 cases h:ofN dc (dN x) with
 | none=>exact absurd rfl (aNt h x hx)
 | some y=>obtain ⟨h1,h2⟩:=sC h;rw [aBc hd h1 hx h2]
def lI(dc:Lqq):Nat→List Int→Int
 | 0,_=>0
 | k+1,x=>if dK x≤4 then dB x else match ofN dc (dAb x) with
  | some y=>lI dc k y
  | none=>0
def lJ(dc:Lqq)(x:List Int):Int:=lI dc (10000+1) x
theorem bUk{dl:Int}{sk dc:Lqq}(hd:bZ dc):∀ (k:Nat) (a b c d e f:Int),inR f→([a,b,c,d,e,f]∈dc∨b≤4∨∀ y∈dc,dN y≠f)→a<(k:Int) →
  (∃ a' b' c' d' e' f',lI dc (k+1) [a,b,c,d,e,f]=d'∧aH Tp 0 (sub (cd Tryz.f128) [1,0,0,0]) (kE dl sk dc a b c d e f) (.exit 0) (kE dl sk dc a' b' c' d' e' f')) ∨
  (lI dc (k+1) [a,b,c,d,e,f]=0∧∃ a' b' c' d' e' f',aH Tp 0 (sub (cd Tryz.f128) [1,0,0,0]) (kE dl sk dc a b c d e f) .ret (dI (kE dl sk dc a' b' c' d' e' f') [(4,.p (aB 0))])):=by
 intro k
 induction k with
 | zero =>
  intro a b c d e f hf hm hk
  by_cases h4:b≤4
  ·refine .inl ⟨a,b,c,d,e,f,?_,.exit (aHp (decide_eq_true h4)) (by simp)⟩
   unfold lI;rw [if_pos (show dK [a,b,c,d,e,f]≤4 from h4)];rfl
  ·rcases hm with hm | hm | hm
   ·have:1≤a:=(eX hd hm).1
    omega
   ·exact absurd hm h4
   ·refine .inr ⟨?_,a,b,c,d,e,f,.exit (aHo (decide_eq_false h4) (wP hd hf) (aWa hd hm)) (by simp)⟩
    unfold lI;rw [if_neg (show ¬ dK [a,b,c,d,e,f]≤4 from h4)]
    have:ofN dc (dAb [a,b,c,d,e,f])=none:=by
     cases h:ofN dc (dAb [a,b,c,d,e,f]) with
     | none=>rfl
     | some y=>exact absurd (sC h).2 (hm y (sC h).1)
    rw [this]
 | succ k ih =>
  intro a b c d e f hf hm hk
  by_cases h4:b≤4
  ·refine .inl ⟨a,b,c,d,e,f,?_,.exit (aHp (decide_eq_true h4)) (by simp)⟩
   unfold lI;rw [if_pos (show dK [a,b,c,d,e,f]≤4 from h4)];rfl
  ·have hu:lI dc (k+1+1) [a,b,c,d,e,f]=match ofN dc (dAb [a,b,c,d,e,f]) with | some y=>lI dc (k+1) y | none=>0:=by
    conv=>lhs;unfold lI
    rw [if_neg (show ¬ dK [a,b,c,d,e,f]≤4 from h4)]
   rw [hu];cases h:ofN dc (dAb [a,b,c,d,e,f]) with
   | none=>exact .inr ⟨rfl,a,b,c,d,e,f,.exit (aHo (decide_eq_false h4) (wP hd hf) (aWa hd (aNt h))) (by simp)⟩
   | some y =>
    obtain ⟨h1,h2⟩:=sC h
    rcases hm with hm | hm | hm
    ·obtain ⟨h3,h5⟩:=aSf hd h1
     rw [h2] at h3 h5
     have ho:=hd.ord _ hm;unfold orB at ho
     rw [if_neg (show ¬ [a,b,c,d,e,f].getD 1 0≤4 from h4)] at ho
     have ho2:=cH.1 ho;have ho3:f≤a-1:=ho2.2;obtain ⟨y0,y1,y2,y3,y4,y5,rfl⟩:=len6 (hd.ud y h1);have h2':y0=f:=h2;have hy5:=mS hd _ h1;have hst:=bBi (dl:=dl) (sk:=sk) (dc:=dc) (u0:=a) (u1:=b) (u2:=c) (u3:=d) (u4:=e) (u5:=f) (decide_eq_false h4) (wP hd hf) h3 h5
     rcases ih y0 y1 y2 y3 y4 y5 (by have q1:0≤y5:=hy5.1;have q2:y5≤9998:=hy5.2;unfold inR;omega) (.inl h1) (by omega) with ⟨a',b',c',d',e',f',q1,q2⟩ | ⟨q1,a',b',c',d',e',f',q2⟩
     ·exact .inl ⟨a',b',c',d',e',f',q1,.step hst q2⟩
     ·exact .inr ⟨q1,a',b',c',d',e',f',.step hst q2⟩
    ·exact absurd hm h4
    ·exact absurd h2 (hm y h1)
theorem bIz{dl:Int}{sk dc:Lqq}(hd:bZ dc){a b c d e f:Int}(hf:inR f)(hm:[a,b,c,d,e,f]∈dc∨b≤4∨∀ y∈dc,dN y≠f)(ha:a≤9999){base:Nat}:FV Tp 128 [pG dl sk dc,.p (.agg [aB a,aB b,aB c,aB d,aB e,aB f])] base (.p (aB (lJ dc [a,b,c,d,e,f]))) []:=by
 unfold lJ
 rcases bUk (dl:=dl) (sk:=sk) hd 10000 a b c d e f hf hm (by omega) with ⟨a',b',c',d',e',f',q1,q2⟩ | ⟨q1,a',b',c',d',e',f',q2⟩
 ·rw [q1];exact bUn q2
 ·rw [q1];exact bUo q2
end
section
section
variable {α:Type}

def mv(A:List α)(x:α)(j:Nat)(R:List α):List α:=A.take j++x::(A.drop j++R)

theorem yL(A:List α)(x:α)(j:Nat)(R:List α)(hj:j≤A.length):(mv A x j R).length=A.length+1+R.length:=by
 unfold mv;simp;omega

theorem aKp(A:List α)(x:α)(j:Nat)(R:List α)(hj:j≤A.length)(t:Nat) :
  (mv A x j R)[t]? = if t<j then A[t]? else if t=j then some x else if t≤A.length then A[t-1]? else R[t-A.length-1]? := by
 unfold mv
 by_cases h1:t<j
 ·rw [if_pos h1,aAh (by simp;omega),List.getElem?_take_of_lt h1]
 ·rw [if_neg h1,aAg (by simp;omega)]
  have hl:(A.take j).length=j:=by simp;omega
  rw [hl]
  by_cases h2:t=j
  ·rw [if_pos h2,show t-j=0 by omega];rfl
  ·rw [if_neg h2,show t-j=(t-j-1)+1 by omega,List.getElem?_cons_succ]
   by_cases h3:t≤A.length
   ·rw [if_pos h3,aAh (by simp;omega),List.getElem?_drop]
    congr 1;omega
   ·rw [if_neg h3,aAg (by simp;omega)]
    congr 1
    simp;omega

theorem bRg(A:List α)(x:α)(j:Nat)(R:List α)(hj:j≤A.length)(h0:0<j)(y:α)(hy:A[j-1]? = some y) :
  ((mv A x j R).set j y).set (j-1) x=mv A x (j-1) R:=by
 have hl:=yL A x j R hj;apply List.ext_getElem?;intro t;rw [List.getElem?_set,List.getElem?_set,aKp A x (j-1) R (by omega),aKp A x j R hj]
 simp only [vA,hl]
 by_cases h1:j-1=t
 ·subst h1
  rw [if_pos rfl,if_pos (by omega),if_neg (by omega),if_pos rfl]
 ·rw [if_neg h1]
  by_cases h2:j=t
  ·subst h2
   rw [if_pos rfl,if_pos (by omega),if_neg (by omega),if_neg (by omega),if_pos (by omega),hy]
  ·rw [if_neg h2]
   by_cases h3:t<j
   ·rw [if_pos h3,if_pos (by omega)]
   ·rw [if_neg h3,if_neg (by omega:¬ t=j),if_neg (by omega:¬ t<j-1),if_neg (by omega:¬ t=j-1)]

def lX(lt:α→α→Bool)(x:α)(A:List α):Nat:=(A.reverse.dropWhile (lt x)).length
def ins(lt:α→α→Bool)(A:List α)(x:α):List α:=A.take (lX lt x A)++x::A.drop (lX lt x A)
def isort(lt:α→α→Bool)(l:List α):List α:=l.foldl (ins lt) []

theorem lK{p:α→Bool}:∀ (l r:List α),(∀ x∈l,p x=true)→(l++r).dropWhile p=r.dropWhile p
 | [],_,_=>rfl
 | x::l,r,h=>by
  rw [List.cons_append,List.dropWhile_cons,if_pos (h x (by simp))]
  exact lK l r (fun y hy=>h y (by simp [hy]))

theorem aIa(lt:α→α→Bool)(x:α)(A:List α)(j:Nat)(hj:j≤A.length)(h:∀ t (_:t<A.length),j≤t→lt x A[t]=true)
  (h2:j=0∨∃ y,A[j-1]? = some y∧lt x y=false):lX lt x A=j:=by
 unfold lX;have e:A.reverse=(A.drop j).reverse++(A.take j).reverse:=by rw [← List.reverse_append,aZc]
 rw [e,lK]
 ·rcases h2 with h0 | ⟨y,hy,hlt⟩
  ·subst h0;simp
  ·by_cases h0:j=0
   ·subst h0;simp
   ·have e2:A.take j=A.take (j-1)++[y]:=by
     rw [show j=(j-1)+1 by omega,List.take_add_one,Nat.add_sub_cancel,hy];rfl
    have hl:(A.take (j-1)).length=j-1:=by simp;omega
    rw [e2,List.reverse_append];show ((y::(A.take (j-1)).reverse).dropWhile (lt x)).length=j;rw [List.dropWhile_cons,hlt];simp;omega
 ·intro z hz
  rw [aAk] at hz
  obtain ⟨t,ht,rfl⟩:=List.getElem_of_mem hz;rw [List.getElem_drop];exact h (j+t) (by simp at ht;omega) (by omega)

theorem aUc(lt:α→α→Bool)(A:List α)(x:α):(ins lt A x).length=A.length+1:=by
 unfold ins;simp;have:lX lt x A≤A.length:=by
  unfold lX;have h2:((A.reverse).dropWhile (lt x)).length≤A.reverse.length:=(List.dropWhile_sublist _).length_le;simpa using h2
 omega

theorem bYa(A:List α)(x:α)(R:List α):mv A x A.length R=A++x::R:=by unfold mv;simp
theorem bKv(lt:α→α→Bool)(A:List α)(x:α)(R:List α):mv A x (lX lt x A) R=ins lt A x++R:=by unfold mv ins;simp

theorem xC(lt:α→α→Bool)(l:List α):(isort lt l).length=l.length:=by
 unfold isort;have:∀ (l A:List α),(l.foldl (ins lt) A).length=A.length+l.length:=by
  intro l
  induction l with
  | nil=>intro A;simp
  | cons x r ih=>intro A;rw [rU,ih,aUc];simp;omega
 rw [this];simp

theorem aUd(lt:α→α→Bool)(l:List α)(k:Nat)(h:k<l.length):isort lt (l.take (k+1))=ins lt (isort lt (l.take k)) l[k]:=by
 unfold isort;rw [List.take_succ_eq_append_getElem h,aJh];rfl
end
theorem len3{x:List Int}(h:x.length=3):∃ a b c,x=[a,b,c]:=by
 match x,h with
 | [a,b,c],_=>exact ⟨a,b,c,rfl⟩
theorem tK{α:Type}(lt:α→α→Bool)(l:List α)(y:α):y∈isort lt l↔y∈l:=by
 unfold isort;have : ∀ (l A:List α),y∈l.foldl (ins lt) A↔y∈A∨y∈l:=by
  intro l
  induction l with
  | nil=>intro A;simp
  | cons x r ih =>
   intro A;rw [rU,ih];have:y∈ins lt A x↔y∈A∨y=x:=by
    unfold ins;rw [jB,jH];constructor
    ·rintro (h | h | h)
     ·exact Or.inl (List.mem_of_mem_take h)
     ·exact Or.inr h
     ·exact Or.inl (List.mem_of_mem_drop h)
    ·rintro (h | h)
     ·rw [← aZc (lX lt x A) A,jB] at h
      rcases h with h | h
      ·exact Or.inl h
      ·exact Or.inr (Or.inr h)
     ·exact Or.inr (Or.inl h)
   rw [this,jH];constructor
   ·rintro ((h | h) | h) <;> simp [h]
   ·rintro (h | h | h) <;> simp [h]
 rw [this];simp

section
variable {α:Type}
theorem yM(lt:α→α→Bool)(A:List α)(x:α):∃ B D:List α,A=B++D∧ins lt A x=B++x::D∧(∀ d∈D,lt x d=true)∧(B=[]∨∃ B' h,B=B'++[h]∧lt x h=false):=by
 have hA:A=(A.reverse.dropWhile (lt x)).reverse++(A.reverse.takeWhile (lt x)).reverse:=by
  rw [← List.reverse_append,List.takeWhile_append_dropWhile,List.reverse_reverse]
 generalize hdw:A.reverse.dropWhile (lt x)=dw at hA
 generalize htw:A.reverse.takeWhile (lt x)=tw at hA
 have hp:lX lt x A=dw.reverse.length:=by unfold lX;rw [hdw,List.length_reverse]
 refine ⟨dw.reverse,tw.reverse,hA,?_,fun d hd => ?_,?_⟩
 ·unfold ins
  rw [hp]
  conv=>lhs;rw [hA]
  rw [List.take_left',List.drop_left'] <;> rfl
 ·rw [aAk,← htw] at hd
  exact gA.1 List.all_takeWhile d hd
 ·cases dw with
  | nil=>exact .inl rfl
  | cons h r =>
   refine .inr ⟨r.reverse,h,by simp,?_⟩
   have:=List.head_dropWhile_not (lt x) (l:=A.reverse) (by rw [hdw];simp)
   simp only [hdw,List.head_cons] at this
   simpa using this
theorem aOo(lt:α→α→Bool)(A:List α)(x:α):(ins lt A x).Perm (x::A):=by
 obtain ⟨B,D,h1,h2,_⟩:=yM lt A x;rw [h2,h1];exact List.perm_middle
theorem aUe(lt:α→α→Bool)(l:List α):(isort lt l).Perm l:=by
 unfold isort;have:∀ (l A:List α),(l.foldl (ins lt) A).Perm (A++l):=by
  intro l
  induction l with
  | nil=>intro A;simp
  | cons x r ih =>
   intro A;rw [rU];refine (ih _).trans (((aOo lt A x).append_right r).trans ?_);exact List.perm_middle.symm
 simpa using this l []
theorem aUf{f:α→Int}{lt:α→α→Bool}(hlt:∀ x y,lt x y=decide (f x<f y)){A:List α}(x:α)(hs:A.Pairwise (fun a b=>f a≤f b)):(ins lt A x).Pairwise (fun a b=>f a≤f b):=by
 obtain ⟨B,D,rfl,h2,h3,h4⟩:=yM lt A x;rw [h2];obtain ⟨s1,s2,s3⟩:=List.pairwise_append.1 hs;have hB:∀ b∈B,f b≤f x:=fun b hb=>by
  rcases h4 with rfl | ⟨B',h,rfl,hx⟩
  ·simp at hb
  ·rw [hlt,decide_eq_false_iff_not] at hx
   rcases jB.1 hb with hb | hb
   ·have:=(List.pairwise_append.1 s1).2.2 b hb h (by simp)
    omega
   ·simp at hb;subst hb;omega
 have hD:∀ d∈D,f x≤f d:=fun d hd=>by
  have:=h3 d hd;rw [hlt,decide_eq_true_eq] at this
  omega
 refine List.pairwise_append.2 ⟨s1,bHp.2 ⟨hD,s2⟩,fun a ha b hb => ?_⟩
 rcases jH.1 hb with rfl | hb
 ·exact hB a ha
 ·exact s3 a ha b hb
theorem qL{f:α→Int}{lt:α→α→Bool}(hlt:∀ x y,lt x y=decide (f x<f y))(l:List α):(isort lt l).Pairwise (fun a b=>f a≤f b):=by
 unfold isort;have:∀ (l A:List α),A.Pairwise (fun a b=>f a≤f b)→(l.foldl (ins lt) A).Pairwise (fun a b=>f a≤f b):=by
  intro l
  induction l with
  | nil=>intro A h;exact h
  | cons x r ih=>intro A h;rw [rU];exact ih _ (aUf hlt x h)
 exact this l [] .nil
end
section
variable {α:Type}
theorem aUg{f g:α→Int}{lt:α→α→Bool}(hlt:∀ x y,lt x y=decide (f x<f y)){A:List α}(x:α)(hs:A.Pairwise (fun a b=>f a<f b∨f a=f b∧g a<g b))(hg:∀ a∈A,g a<g x):(ins lt A x).Pairwise (fun a b=>f a<f b∨f a=f b∧g a<g b):=by
 obtain ⟨B,D,rfl,h2,h3,h4⟩:=yM lt A x;rw [h2];obtain ⟨s1,s2,s3⟩:=List.pairwise_append.1 hs;have hB:∀ b∈B,f b≤f x:=fun b hb=>by
  rcases h4 with rfl | ⟨B',h,rfl,hx⟩
  ·simp at hb
  ·rw [hlt,decide_eq_false_iff_not] at hx
   rcases jB.1 hb with hb | hb
   ·have:=(List.pairwise_append.1 s1).2.2 b hb h (by simp)
    omega
   ·simp at hb;subst hb;omega
 have hD:∀ d∈D,f x<f d:=fun d hd=>by
  have:=h3 d hd
  rwa [hlt,decide_eq_true_eq] at this
 refine List.pairwise_append.2 ⟨s1,bHp.2 ⟨fun d hd => .inl (hD d hd),s2⟩,fun a ha b hb => ?_⟩
 rcases jH.1 hb with rfl | hb
 ·have h5:=hB a ha
  have h6:=hg a (nZ _ ha)
  by_cases e:f a=f b
  ·exact .inr ⟨e,h6⟩
  ·exact .inl (by omega)
 ·exact s3 a ha b hb
theorem aKq{f g:α→Int}{lt:α→α→Bool}(hlt:∀ x y,lt x y=decide (f x<f y))(l:List α)(hl:l.Pairwise (fun a b=>g a<g b)):(isort lt l).Pairwise (fun a b=>f a<f b∨f a=f b∧g a<g b):=by
 unfold isort;have:∀ (l A:List α),l.Pairwise (fun a b=>g a<g b)→(∀ a∈A,∀ x∈l,g a<g x)→A.Pairwise (fun a b=>f a<f b∨f a=f b∧g a<g b)→(l.foldl (ins lt) A).Pairwise (fun a b=>f a<f b∨f a=f b∧g a<g b):=by
  intro l
  induction l with
  | nil=>intro A _ _ h;exact h
  | cons x r ih =>
   intro A hl hA h;obtain ⟨h1,h2⟩:=bHp.1 hl;rw [rU];refine ih _ h2 (fun a ha y hy => ?_) (aUg hlt x h (fun a ha=>hA a ha x (gY ..)))
   rcases jH.1 ((aOo lt A x).mem_iff.1 ha) with rfl | ha
   ·exact h1 y hy
   ·exact hA a ha y (kQ6 _ hy)
 exact this l [] hl (fun a ha=>by simp at ha) .nil
end
end
section
variable {j x y y200 y201 y202 y203 y204 y205:Int}{L M l:Lqq}{i base:Nat}

noncomputable abbrev aHz:Code:=sub (cd Tryz.f216) [1,0,0,1,0,0,1,0,0]
noncomputable abbrev aOn:Code:=sub (cd Tryz.f216) [1,0,0]
theorem bXt{r0:Bool}(er0:r0=(x != x)):FV Tp 168 [(pI x)] base (pB r0) []:=by
 subst er0;exact FV.fi Tryz.func168 [] gn
theorem yK(x:Int){base:Nat}:FV Tp 168 [.p (aB x)] base (pB false) []:=bXt (by simp)
theorem bXu(h0:x<y):FV Tp 116 [(pI x),(pI y)] base (pI (-1:Int)) []:=by
 exact FV.fi Tryz.func116 [.c (pB false) [],.c (pB false) [],bF,bF,bT] (gc (aV h0) (gf (gf (gc (fk 0 (yK y) rfl) (gc (fk 0 (yK x) rfl) gn)))))
theorem bXv(h0:y≤x)(h1:y<x):FV Tp 116 [(pI x),(pI y)] base (pI 1) []:=by
 exact FV.fi Tryz.func116 [.c (pB false) [],.c (pB false) [],bF,bF,bF,bT] (gc (aV h1) (gc (bA h0) (gf (gf (gc (fk 0 (yK y) rfl) (gc (fk 0 (yK x) rfl) gn))))))
theorem bXw(h0:y≤x)(h1:x≤y):FV Tp 116 [(pI x),(pI y)] base (pI 0) []:=by
 exact FV.fi Tryz.func116 [.c (pB false) [],.c (pB false) [],bF,bF,bF,bF] (gc (bA h1) (gc (bA h0) (gf (gf (gc (fk 0 (yK y) rfl) (gc (fk 0 (yK x) rfl) gn))))))
def aAr(x y:Int):Int:=if x<y then -1 else if y<x then 1 else 0
theorem bXx(x y:Int){base:Nat}:FV Tp 116 [.p (aB x),.p (aB y)] base (pI (aAr x y)) []:=by
 unfold aAr
 by_cases h1:x<y
 ·rw [if_pos h1];exact bXu h1
 ·rw [if_neg h1]
  by_cases h2:y<x
  ·rw [if_pos h2];exact bXv (by omega) h2
  ·rw [if_neg h2];exact bXw (by omega) (by omega)
def ltK(f:Nat)(x y:List Int):Bool:=decide (aAr (x.getD f 0) (y.getD f 0)<0)
theorem aKo(f:Nat)(x y:List Int):ltK f x y=decide (x.getD f 0<y.getD f 0):=by
 unfold ltK aAr;rw [decide_eq_decide]
 split
 ·omega
 ·split <;> omega
theorem aWt{a0 a1 a2 b0 b1 b2 r0:Int}(er0:r0=(aAr a2 b2)):FV Tp 152 [(.p (.agg [(aB a0),(aB a1),(aB a2)])),(.p (.agg [(aB b0),(aB b1),(aB b2)]))] base (pI r0) []:=by
 subst er0;have k1:=fk 2 (bXx a2 b2) rfl;exact FV.fi Tryz.func152 [k1.o] (gc k1 gn)
def lD(l:Lqq)(i:Nat)(Ln:Nat)(Lc:List PV):St:=⟨fr 53 [(0,(.own 0)),(1,(pI 0)),(2,(pI (l.length:Int))),(3,(.fn 152 [] [])),(8,(pI (i:Int)))],[some (.row 48 Ln Lc)]⟩
theorem aWu{i'0:Nat}{L'1:Lqq}(hl0:aH Tp 1 aOn (lD l 1 l.length (l.flatten.map aB)) (.exit 0) (lD l i'0 L'1.length (L'1.flatten.map aB))):FMM Tp 216 [(.own 0),(pI 0),(pI (l.length:Int)),(.fn 152 [] [])] [some (.row 48 l.length (l.flatten.map aB))] (.tup []) [some (.row 48 L'1.length (L'1.flatten.map aB))]:=by
 exact FMM.fi 1 ⟨[],[],[],[]⟩ Tryz.func216 [hl0.k 3 ⟨(rng [(4,4),(9,44)]),[],[],[]⟩] (gc hl0.code (gt (inR (1:Int)) (by unfold inR;omega) gn))
def jG(l:Lqq)(i:Nat)(j:Int)(Mn:Nat)(Mc:List PV):St:=⟨fr 53 [(0,(.own 0)),(1,(pI 0)),(2,(pI (l.length:Int))),(3,(.fn 152 [] [])),(8,(pI (i:Int))),(9,(pI j)),(12,(pI (i:Int))),(13,(pI (l.length:Int))),(14,(pB (decide ((i:Int)<(l.length:Int))))),(17,(pI (i:Int)))],[some (.row 48 Mn Mc)]⟩
theorem aTw{j'100:Int}{M'101:Lqq}{i':Nat}{L':Lqq}(h0:(i:Int)<(l.length:Int))(hl1:aH Tp 1 aHz (jG l i (i:Int) L.length (L.flatten.map aB)) (.exit 2) (jG l i j'100 M'101.length (M'101.flatten.map aB)))(h2:inR (((i+1):Nat):Int))(ei':i'=(i+1))(eL'n:L'.length=M'101.length)(eL'c:L'.flatten.map aB=(M'101.flatten.map aB)):aC Tp 1 aOn (lD l i L.length (L.flatten.map aB)) .normal (lD l i' L'.length (L'.flatten.map aB)):=by
 subst ei';have raw:aC Tp 1 aOn (lD l i L.length (L.flatten.map aB)) .normal (lD l (i+1) M'101.length (M'101.flatten.map aB)):=aC.fi ⟨(rng [(4,4),(9,44)]),[],[],[]⟩ [bT,hl1.k 5 ⟨(rng [(4,4),(10,2),(18,35)]),[],[],[]⟩] (gc h2 (gc hl1.code (gc (aV h0) gn)));exact raw.cast (by rw [eL'n,eL'c])
theorem aEk(h0:(l.length:Int)≤(i:Int)):aC Tp 1 aOn (lD l i L.length (L.flatten.map aB)) (.exit 0) (lD l i L.length (L.flatten.map aB)):=by
 exact aC.fi ⟨(rng [(4,4),(9,44)]),[],[],[]⟩ [bF] (gc (bA h0) gn)
theorem aTx{j':Int}{M':Lqq}(h0:(0:Int)<j)(h1:M[j.toNat]? = some [y200,y201,y202])(h2:0≤j)(h3:uni 3 M)(h4:inR (j-1))(h5:M[(j-1).toNat]? = some [y203,y204,y205])(h6:0≤(j-1))(h7:(aAr y202 y205)<0)(h8:[(aB y203),(aB y204),(aB y205)].length=3∧(j.toNat*3)+3≤(M.flatten.map aB).length)(h9:0≤(j-1)∧(j-1)<(M.length:Int))(h10:[(aB y200),(aB y201),(aB y202)].length=3∧((j-1).toNat*3)+3≤((M.flatten.map aB).take (j.toNat*3)++[(aB y203),(aB y204),(aB y205)]++(M.flatten.map aB).drop ((j.toNat*3)+3)).length)(ej':j'=(j-1))(eM'n:M'.length=M.length)(eM'c:M'.flatten.map aB=(((M.flatten.map aB).take (j.toNat*3)++[(aB y203),(aB y204),(aB y205)]++(M.flatten.map aB).drop ((j.toNat*3)+3)).take ((j-1).toNat*3)++[(aB y200),(aB y201),(aB y202)]++((M.flatten.map aB).take (j.toNat*3)++[(aB y203),(aB y204),(aB y205)]++(M.flatten.map aB).drop ((j.toNat*3)+3)).drop (((j-1).toNat*3)+3))):aC Tp 1 aHz (jG l i j M.length (M.flatten.map aB)) .normal (jG l i j' M'.length (M'.flatten.map aB)):=by
 subst ej';have raw:aC Tp 1 aHz (jG l i j M.length (M.flatten.map aB)) .normal (jG l i (j-1) M.length (((M.flatten.map aB).take (j.toNat*3)++[(aB y203),(aB y204),(aB y205)]++(M.flatten.map aB).drop ((j.toNat*3)+3)).take ((j-1).toNat*3)++[(aB y200),(aB y201),(aB y202)]++((M.flatten.map aB).take (j.toNat*3)++[(aB y203),(aB y204),(aB y205)]++(M.flatten.map aB).drop ((j.toNat*3)+3)).drop (((j-1).toNat*3)+3))):=aC.fi ⟨(rng [(4,4),(10,2),(18,35)]),[],[],[]⟩ [bT,bT,bT,bT,bT,.x (.agg [(aB y200),(aB y201),(aB y202)]),bT,bT,bT,bT,bT,.x (.agg [(aB y203),(aB y204),(aB y205)]),bT,.c (pI (aAr y202 y205)) [],bT,bT,bT,.x (.agg [(aB y203),(aB y204),(aB y205)]),.x (.agg [(aB y200),(aB y201),(aB y202)])] (gc h4 (gc h10 (gc h9 (gc h8 (gc (cT (i:=j) h2 h1) (gc (aT (i:=j.toNat) h3 h1) (gc (bH (i:=j.toNat) h3 h1) (gc (cT (i:=j) h2 h1) (gc (aT (i:=(j-1).toNat) h3 h5) (gc (bH (i:=(j-1).toNat) h3 h5) (gc (cT (i:=(j-1)) h6 h5) (g2c h4 (gc (aV h7) (g2c (aV h0) (gt (FC Tp 152 [(.p (.agg [(aB y200),(aB y201),(aB y202)])),(.p (.agg [(aB y203),(aB y204),(aB y205)]))] [] 1 (pI (aAr y202 y205)) []) (FV.fc (aWt rfl) rfl) (gc (aV h0) (gc (aT (i:=(j-1).toNat) h3 h5) (gc (bH (i:=(j-1).toNat) h3 h5) (gc (aV h0) (gc (cT (i:=(j-1)) h6 h5) (gc (aV h0) (gc h4 (g3c (aV h0) (gc (aT (i:=j.toNat) h3 h1) (gc (bH (i:=j.toNat) h3 h1) (gc (aV h0) (gc (cT (i:=j) h2 h1) (g4c (aV h0) gn))))))))))))))))))))))))))));exact raw.cast (by rw [eM'n,eM'c])
theorem aTy(h0:(0:Int)<j)(h1:M[j.toNat]? = some [y200,y201,y202])(h2:0≤j)(h3:uni 3 M)(h4:inR (j-1))(h5:M[(j-1).toNat]? = some [y203,y204,y205])(h6:0≤(j-1))(h7:(0:Int)≤(aAr y202 y205)):aC Tp 1 aHz (jG l i j M.length (M.flatten.map aB)) (.exit 2) (jG l i j M.length (M.flatten.map aB)):=by
 exact aC.fi ⟨(rng [(4,4),(10,2),(18,35)]),[],[],[]⟩ [bT,bT,bT,bT,bT,.x (.agg [(aB y200),(aB y201),(aB y202)]),bT,bT,bT,bT,bT,.x (.agg [(aB y203),(aB y204),(aB y205)]),bT,.c (pI (aAr y202 y205)) [],bT,bT,bF] (gc (bA h7) (g2c (aV h0) (gt (FC Tp 152 [(.p (.agg [(aB y200),(aB y201),(aB y202)])),(.p (.agg [(aB y203),(aB y204),(aB y205)]))] [] 1 (pI (aAr y202 y205)) []) (FV.fc (aWt rfl) rfl) (gc (aV h0) (gc (aT (i:=(j-1).toNat) h3 h5) (gc (bH (i:=(j-1).toNat) h3 h5) (gc (aV h0) (gc (cT (i:=(j-1)) h6 h5) (gc (aV h0) (gc h4 (g3c (aV h0) (gc (aT (i:=j.toNat) h3 h1) (gc (bH (i:=j.toNat) h3 h1) (gc (aV h0) (gc (cT (i:=j) h2 h1) (g4c (aV h0) gn))))))))))))))))
theorem aTz(h0:j≤0):aC Tp 1 aHz (jG l i j M.length (M.flatten.map aB)) (.exit 2) (jG l i j M.length (M.flatten.map aB)):=by
 exact aC.fi ⟨(rng [(4,4),(10,2),(18,35)]),[],[],[]⟩ [bF,bF,bF,bF,bF,bF,bF,bF,bF,bF,bF,bF,bF] (g8c (bA h0) (g5c (bA h0) gn))
theorem bXy(l:Lqq)(i:Nat)(A R:Lqq)(hA:A.length<1000)(hi:i=A.length)(x0 x1 x2:Int)(hu:uni 3 (A++[x0,x1,x2]::R)):∀ m,m≤A.length→(∀ t (h:t<A.length),m≤t→ltK 2 [x0,x1,x2] A[t]=true) →
  aH Tp 1 aHz (jG l i (m:Int) (mv A [x0,x1,x2] m R).length ((mv A [x0,x1,x2] m R).flatten.map aB)) (.exit 2) (jG l i (lX (ltK 2) [x0,x1,x2] A:Int) (ins (ltK 2) A [x0,x1,x2]++R).length ((ins (ltK 2) A [x0,x1,x2]++R).flatten.map aB)):=by
 have huA:∀ y∈A,y.length=3:=fun y hy=>hu y (nZ _ hy)
 have huM:∀ m,uni 3 (mv A [x0,x1,x2] m R):=fun m y hy=>by
  unfold mv at hy
  rcases jB.1 hy with h | h
  ·exact huA y (List.mem_of_mem_take h)
  ·rcases jH.1 h with rfl | h
   ·rfl
   ·rcases jB.1 h with h | h
    ·exact huA y (List.mem_of_mem_drop h)
    ·exact hu y (aDf _ (kQ6 _ h))
 intro m
 induction m with
 | zero =>
  intro _ hlt;have e:=aIa (ltK 2) [x0,x1,x2] A 0 (Nat.zero_le _) hlt (.inl rfl);rw [← bKv,e];exact .exit (aTz (by simp)) (by simp)
 | succ m ih =>
  intro hm hlt;have hy:=kQ0 (show m<A.length by omega)
  generalize A[m]=y at hy
  obtain ⟨y0,y1,y2,rfl⟩:=len3 (huA y (kQ5 hy));have e1:((m+1:Nat):Int).toNat=m+1:=by omega
  have e2:(((m+1:Nat):Int)-1).toNat=m:=by omega
  have hl:=yL A [x0,x1,x2] (m+1) R hm;have g1:(mv A [x0,x1,x2] (m+1) R)[m+1]? = some [x0,x1,x2]:=by rw [aKp A _ _ R hm];simp
  have g2:(mv A [x0,x1,x2] (m+1) R)[m]? = some [y0,y1,y2]:=by rw [aKp A _ _ R hm,if_pos (by omega)];exact hy
  by_cases hc:aAr x2 y2<0
  ·have st:=rV (k:=3) (i:=m+1) (x:=[y0,y1,y2]) (huM (m+1)) (by omega) rfl
   have hs1:uni 3 ((mv A [x0,x1,x2] (m+1) R).set (m+1) [y0,y1,y2]):=aVt (huM _) rfl;have st2:=rV (k:=3) (i:=m) (x:=[x0,x1,x2]) hs1 (by rw [vA];omega) rfl
   have gm:((mv A [x0,x1,x2] (m+1) R).set (m+1) [y0,y1,y2])[m]? = some [y0,y1,y2]:=by rw [List.getElem?_set,if_neg (by omega)];exact g2
   have hsw:=bRg A [x0,x1,x2] (m+1) R hm (by omega) [y0,y1,y2] (by simpa using hy)
   rw [Nat.add_sub_cancel] at hsw
   simp only [gZ,List.map_nil] at st st2
   refine .step (aTx (j:=((m+1:Nat):Int)) (j':=(m:Int)) (M':=mv A [x0,x1,x2] m R) (by omega) (by rw [e1];exact g1) (by omega) (huM _) (by unfold inR;omega) (by rw [e2];exact g2) (by omega) hc ⟨rfl,by rw [e1];exact bH (huM _) g1⟩ ⟨by omega,by omega⟩ ⟨rfl,?_⟩ (by omega) (by rw [hl,yL A _ _ R (by omega)]) ?_) (ih (by omega) fun t ht h1 => ?_)
   ·rw [e1,e2,st];exact bH hs1 gm
   ·rw [e1,e2,st,st2,hsw]
   ·by_cases h2:t=m
    ·subst h2
     have h3:=hy;rw [kQ0 ht,Option.some.injEq] at h3
     rw [h3];simpa [ltK] using hc
    ·exact hlt t ht (by omega)
  ·have e:=aIa (ltK 2) [x0,x1,x2] A (m+1) hm hlt (.inr ⟨[y0,y1,y2],by simpa using hy,by simpa [ltK] using hc⟩)
   rw [← bKv,e];exact .exit (aTy (by omega) (by rw [e1];exact g1) (by omega) (huM _) (by unfold inR;omega) (by rw [e2];exact g2) (by omega) (by omega)) (by simp)
theorem bRc(l:Lqq)(hu:uni 3 l)(hn:l.length<1000):FMM Tp 216 [.own 0,.p (aB 0),.p (aB (l.length:Int)),.fn 152 [] []] [some (.row 48 l.length (l.flatten.map aB))] (.tup []) [some (.row 48 (isort (ltK 2) l).length ((isort (ltK 2) l).flatten.map aB))]:=by
 have hui:∀ i,uni 3 (isort (ltK 2) (l.take i)):=fun i y hy=>hu y (List.mem_of_mem_take ((tK (ltK 2) _ y).1 hy))
 have key:∀ d i,i+d=l.length→1≤i→aH Tp 1 aOn (lD l i (isort (ltK 2) (l.take i)++l.drop i).length ((isort (ltK 2) (l.take i)++l.drop i).flatten.map aB)) (.exit 0) (lD l l.length (isort (ltK 2) l).length ((isort (ltK 2) l).flatten.map aB)):=by
  intro d
  induction d with
  | zero =>
   intro i hi _;obtain rfl:i=l.length:=by omega
   rw [List.take_length,List.drop_length,List.append_nil];exact .exit (aEk (by omega)) (by simp)
  | succ d ih =>
   intro i hi h1;have hlt:i<l.length:=by omega
   have hx:=hu l[i] (gS hlt);generalize hxx:l[i]=x at hx
   obtain ⟨x0,x1,x2,rfl⟩:=len3 hx;have hAl:(isort (ltK 2) (l.take i)).length=i:=by rw [xC,mY];omega
   have hdr:l.drop i=[x0,x1,x2]::l.drop (i+1):=by rw [aZb hlt,hxx]
   have hin:=bXy l i (isort (ltK 2) (l.take i)) (l.drop (i+1)) (by omega) hAl.symm x0 x1 x2 (by
    intro y hy
    rcases jB.1 hy with h | h
    ·exact hui i y h
    ·rcases jH.1 h with rfl | h
     ·rfl
     ·exact hu y (List.mem_of_mem_drop h)) i (by omega) (fun t ht h2=>by omega)
   have hmv:mv (isort (ltK 2) (l.take i)) [x0,x1,x2] i (l.drop (i+1))=isort (ltK 2) (l.take i)++l.drop i:=by
    have:=bYa (isort (ltK 2) (l.take i)) [x0,x1,x2] (l.drop (i+1));rw [hAl] at this;rw [this,hdr]
   have hsn:=aUd (ltK 2) l i hlt;rw [hxx] at hsn
   rw [hmv,← hsn] at hin
   exact .step (aTw (by omega) hin (by unfold inR;omega) rfl rfl rfl) (ih (i+1) (by omega) (by omega))
 rcases Nat.eq_zero_or_pos l.length with h0 | hp
 ·have:l=[]:=aDe h0
  subst this;exact aWu (aH.exit (aEk (l:=[]) (L:=[]) (i:=1) (by simp)) (by simp))
 ·have:=key (l.length-1) 1 (by omega) (by omega)
  have e1:isort (ltK 2) (l.take 1)++l.drop 1=l:=by
   cases l with
   | nil=>simp at hp
   | cons x r=>simp [isort,ins,lX]
  rw [e1] at this
  exact aWu this
def aBg(l:Lqq)  : St:=⟨fr 63 [(0,(.own 0)),(1,(pI (l.length:Int))),(2,(.fn 152 [] [])),(6,(pI 20)),(7,(pI 0)),(8,(pI 20))],[some (.row 48 l.length (l.flatten.map aB))]⟩
def aBh(l:Lqq)  : St:=⟨fr 63 [(0,(.own 0)),(1,(pI (l.length:Int))),(2,(.fn 152 [] [])),(6,(pI 20)),(7,(pI 0)),(8,(pI 20))],[some (.row 48 ((isort (ltK 2) l).length) ((isort (ltK 2) l).flatten.map aB))]⟩
theorem bRd(hl0:aH Tp 1 (sub (cd Tryz.f188) [1,1,0,0,0]) (aBg l ) (.exit 0) (aBg l ))(h1:uni 3 l)(h2:l.length<1000)(hl3:aH Tp 1 (sub (cd Tryz.f188) [1,1,1,1,0,0]) (aBh l ) (.exit 2) (aBh l )):FMM Tp 188 [(.own 0),(pI (l.length:Int)),(.fn 152 [] [])] [some (.row 48 l.length (l.flatten.map aB))] (.tup []) [some (.row 48 ((isort (ltK 2) l).length) ((isort (ltK 2) l).flatten.map aB))]:=by
 have k1:=mq [0] 1 (bRc l h1 h2);exact FMM.fi 1 ⟨[],[],[],[]⟩ Tryz.func188 [hl0.k 6 ⟨(rng [(3,3),(10,13),(27,1),(43,1),(60,1)]),[],[],[]⟩,k1.o,hl3.k 1 ⟨(rng [(3,3),(10,53)]),[],[],[]⟩] (gc hl3.code (gc k1 (gc hl0.code gn)))
theorem aUa(h0:(l.length:Int)<20):aC Tp 1 (sub (cd Tryz.f188) [1,1,0,0,0]) (aBg l ) (.exit 0) (aBg l ):=by
 exact aC.fi ⟨(rng [(3,3),(10,13),(27,1),(43,1),(60,1)]),[],[],[]⟩ [bF] (gc (qU h0) gn)
theorem aUb(h0:(l.length:Int)≤20):aC Tp 1 (sub (cd Tryz.f188) [1,1,1,1,0,0]) (aBh l ) (.exit 2) (aBh l ):=by
 exact aC.fi ⟨(rng [(3,3),(10,53)]),[],[],[]⟩ [bF] (gc (bA h0) gn)
theorem bRe(l:Lqq)(hu:uni 3 l)(hn:l.length<20):FMM Tp 188 [.own 0,.p (aB (l.length:Int)),.fn 152 [] []] [some (.row 48 l.length (l.flatten.map aB))] (.tup []) [some (.row 48 (isort (ltK 2) l).length ((isort (ltK 2) l).flatten.map aB))] := 
 bRd (aH.exit (aUa (by omega)) (by simp)) hu (by omega) (aH.exit (aUb (by omega)) (by simp))
theorem bRf(h0:uni 3 l)(h1:l.length<20):FMM Tp 151 [(.own 0),(.fn 152 [] [])] [some (.row 48 l.length (l.flatten.map aB))] (.tup []) [some (.row 48 ((isort (ltK 2) l).length) ((isort (ltK 2) l).flatten.map aB))]:=by
 have k1:=mq [0] 1 (bRe l h0 h1);exact FMM.fi 1 ⟨[],[],[],[]⟩ Tryz.func151 [k1.o] (gc k1 gn)
theorem bXz(l:Lqq)(hu:uni 3 l)(hn:l.length<20):FMM Tp 151 [.own 0,.fn 152 [] []] [some (.row 48 l.length (l.flatten.map aB))] (.tup []) [some (.row 48 (isort (ltK 2) l).length ((isort (ltK 2) l).flatten.map aB))]:=bRf hu hn
end
section
variable {r0 b103:Bool}{n102 x100 x101 y100 y101 y200 y201 y202 y203 y204 y205:Int}{t t' t'3 T104:Lqb}{L p L' p'0 q'1:Lqq}{l q u:List Int}{i j i' j' i'0 base:Nat}{ov:PV}
variable {dl:Int}{sk dc:Lqq}

noncomputable abbrev rZ:Code:=sub (cd Tryz.f86) [1,1,1,1,0,1,0,0]
noncomputable abbrev yA:Code:=sub (cd Tryz.f86) [1,1,0,1,0,0]
noncomputable abbrev yB:Code:=sub (cd Tryz.f129) [1,0,1,0,0]
noncomputable abbrev aJt:Code:=sub (cd Tryz.f21) [1,1,1,1,1,0,1,0,0]
theorem bIy:((0:Int) != (0:Int))=false:=by first | decide | simp
theorem aDu{cs:List PV}{a b:Nat}{v x:PV}(hn:a≠b)(h:cs[b]? = some x):(cs.set a v)[b]? = some x:=by rw [bMx hn];exact h
def ocB(q:List Int)(n:Int):Bool:=q.contains n
abbrev bUa(dl:Int)(sk dc:Lqq)(ov:PV)(R:Lqq)(T T2:Lqb):Prop:=FMM Tp 86 [pG dl sk dc,yD] (dF dl sk dc ov T) (.own 7) (dF dl sk dc ov T2++[some (.row 48 R.length (R.flatten.map aB))])
def kD(dl:Int)(sk:Lqq)(dc:Lqq)(ov:PV)(pn:Nat)(pc:List PV)(qn:Nat)(qc:List PV)(i:Nat)(te:List (Value × PV))(tk:Nat):St:=⟨fr 87 [(0,(.rp (aX dl sk dc) 0)),(3,(.ptr 7 0)),(4,(.p dR)),(5,(.own 8)),(6,(.own 9)),(16,(.p (fS sk))),(17,(pI (sk.length:Int))),(18,(pI (i:Int)))],[some (vB0 dl sk dc),some (.box 33 [(.p ov)]),some vB2,some (.mp te tk),some (.box 207 [(.mp 3)]),some (vB5 dl sk dc),some vB6,some vB2,some (.row 48 pn pc),some (.row 48 qn qc)]⟩
def fO(dl:Int)(sk:Lqq)(dc:Lqq)(ov:PV)(p'0:Lqq)(q'1:Lqq)(t'3:Lqb)(Ln:Nat)(Lc:List PV)(j:Nat):St:=⟨fr 87 [(4,(.p dR)),(5,(.own 7)),(6,(.own 8)),(47,(pI (((isort (ltK 2) p'0).length:Nat):Int))),(48,(pI (j:Int)))],[some (vB0 dl sk dc),some (.box 33 [(.p ov)]),some vB2,some (.mp (aL t'3) t'3.length),some (.box 207 [(.mp 3)]),some (vB5 dl sk dc),some vB6,some (.row 48 Ln Lc),some (.row 48 q'1.length (q'1.flatten.map aB))]⟩
theorem bUb{T:Lqb}{i'2:Nat}{L'4:Lqq}{j'5 r0n:Nat}{r0c:List PV}(hl0:aH Tp 7 yA (kD dl sk dc ov 0 [] 0 [] 0 (aL T) T.length) (.exit 0) (kD dl sk dc ov p'0.length (p'0.flatten.map aB) q'1.length (q'1.flatten.map aB) i'2 (aL t'3) t'3.length))(h1:uni 3 p'0)(h2:p'0.length<20)(hl3:aH Tp 7 rZ (fO dl sk dc ov p'0 q'1 t'3 ((isort (ltK 2) p'0).length) ((isort (ltK 2) p'0).flatten.map aB) 0) (.exit 2) (fO dl sk dc ov p'0 q'1 t'3 L'4.length (L'4.flatten.map aB) j'5))(h4:(q'1.flatten.map aB).length=q'1.length*3∧L'4.length+q'1.length≤1000000)(er0n:r0n=(L'4.length+q'1.length))(er0c:r0c=((L'4.flatten.map aB)++(q'1.flatten.map aB))):FMM Tp 86 [(.rp (aX dl sk dc) 0),yD] (dF dl sk dc ov T) (.own 7) [some (vB0 dl sk dc),some (.box 33 [(.p ov)]),some vB2,some (.mp (aL t'3) t'3.length),some (.box 207 [(.mp 3)]),some (vB5 dl sk dc),some vB6,some (.row 48 r0n r0c)]:=by
 subst er0n er0c;have k1:=mq [8] 10 (bXz p'0 h1 h2);exact FMM.fi 7 ⟨[],[9],[],[]⟩ Tryz.func86 [.x (fS sk),hl0.k 1 ⟨(rng [(1,2),(7,4),(12,4),(19,25),(45,1)]),[7,8,9],[],[(5,48),(6,48)]⟩,k1.o,hl3.k 4 ⟨(rng [(0,4),(7,40),(49,35)]),[8,9],[],[]⟩] (gc h4 (gc hl3.code (gc k1 (gc hl0.code (gr (fS sk) gn)))))
theorem bAy{q:Lqq}{q':Lqq}(h0:(i:Int)<(sk.length:Int))(h1:sk[i]? = some [y100,y101])(h2:uni 2 sk)(h3:aFr dl sk dc ov [y100,y101] n102 b103 t T104)(h4:b103=true)(h5:[(aB y100),(aB (-1:Int)),(aB 0)].length=1*3∧q.length+1≤1000000)(h6:inR (((i+1):Nat):Int))(eq'n:q'.length=(q.length+1))(eq'c:q'.flatten.map aB=((q.flatten.map aB)++[(aB y100),(aB (-1:Int)),(aB 0)]))(ei':i'=(i+1))(et'e:aL t'=(aL T104))(et'k:t'.length=T104.length):aC Tp 7 yA (kD dl sk dc ov p.length (p.flatten.map aB) q.length (q.flatten.map aB) i (aL t) t.length) .normal (kD dl sk dc ov p.length (p.flatten.map aB) q'.length (q'.flatten.map aB) i' (aL t') t'.length):=by
 subst ei';have k1:=mq [0,1,2,3,4,5,6] 11 h3;have raw:aC Tp 7 yA (kD dl sk dc ov p.length (p.flatten.map aB) q.length (q.flatten.map aB) i (aL t) t.length) .normal (kD dl sk dc ov p.length (p.flatten.map aB) (q.length+1) ((q.flatten.map aB)++[(aB y100),(aB (-1:Int)),(aB 0)]) (i+1) (aL T104) T104.length):=aC.fi ⟨(rng [(1,2),(7,4),(12,4),(19,25),(45,1)]),[7,8,12],[],[]⟩ [bT,.x (.agg [(aB y100),(aB y101)]),k1.o,bT] (gc h6 (gc h5 (gt ([(aB y100),(aB (-1:Int)),(aB 0)].length=3) (by first | decide | simp) (gc h4 (gc k1 (gc (aT (i:=i) h2 h1) (gc (bH (i:=i) h2 h1) (gc (bR (k:=2) (i:=(i:Int)) (by decide) h2 (kQ1 _) h1) (gc (aV h0) gn)))))))))
 exact raw.cast (by rw [eq'n,eq'c,et'e,et'k])
theorem bAz{q:Lqq}{p':Lqq}(h0:(i:Int)<(sk.length:Int))(h1:sk[i]? = some [y100,y101])(h2:uni 2 sk)(h3:aFr dl sk dc ov [y100,y101] n102 b103 t T104)(h4:b103=false)(h5:[(aB y100),(aB 0),(aB n102)].length=1*3∧p.length+1≤1000000)(h6:inR (((i+1):Nat):Int))(ep'n:p'.length=(p.length+1))(ep'c:p'.flatten.map aB=((p.flatten.map aB)++[(aB y100),(aB 0),(aB n102)]))(ei':i'=(i+1))(et'e:aL t'=(aL T104))(et'k:t'.length=T104.length):aC Tp 7 yA (kD dl sk dc ov p.length (p.flatten.map aB) q.length (q.flatten.map aB) i (aL t) t.length) .normal (kD dl sk dc ov p'.length (p'.flatten.map aB) q.length (q.flatten.map aB) i' (aL t') t'.length):=by
 subst ei';have k1:=mq [0,1,2,3,4,5,6] 11 h3;have raw:aC Tp 7 yA (kD dl sk dc ov p.length (p.flatten.map aB) q.length (q.flatten.map aB) i (aL t) t.length) .normal (kD dl sk dc ov (p.length+1) ((p.flatten.map aB)++[(aB y100),(aB 0),(aB n102)]) q.length (q.flatten.map aB) (i+1) (aL T104) T104.length):=aC.fi ⟨(rng [(1,2),(7,4),(12,4),(19,25),(45,1)]),[7,12,9],[],[]⟩ [bT,.x (.agg [(aB y100),(aB y101)]),k1.o,bF] (gc h6 (gc h5 (gt ([(aB y100),(aB 0),(aB n102)].length=3) (by first | decide | simp) (gc h4 (gc k1 (gc (aT (i:=i) h2 h1) (gc (bH (i:=i) h2 h1) (gc (bR (k:=2) (i:=(i:Int)) (by decide) h2 (kQ1 _) h1) (gc (aV h0) gn)))))))))
 exact raw.cast (by rw [ep'n,ep'c,et'e,et'k])
theorem bBa{q:Lqq}(h0:(sk.length:Int)≤(i:Int)):aC Tp 7 yA (kD dl sk dc ov p.length (p.flatten.map aB) q.length (q.flatten.map aB) i (aL t) t.length) (.exit 0) (kD dl sk dc ov p.length (p.flatten.map aB) q.length (q.flatten.map aB) i (aL t) t.length):=by
 exact aC.fi ⟨(rng [(1,2),(7,4),(12,4),(19,25),(45,1)]),[7,8,9],[],[]⟩ [bF] (gc (bA h0) gn)
theorem bBb(h0:(j:Int)<(((isort (ltK 2) p'0).length:Nat):Int))(h1:inR (((j+1):Nat):Int))(h2:L[j]? = some [y200,y201,y202])(h3:((j*3)+1)<(L.flatten.map aB).length)(h4:(0:Int)<(j:Int))(h5:uni 3 L)(h6:inR ((j:Int)-1))(h7:L[((j:Int)-1).toNat]? = some [y203,y204,y205])(h8:0≤((j:Int)-1))(h9:y202=y205)(h10:((j*3)+1)<((L.flatten.map aB).set ((j*3)+1) (aB (((j+1):Nat):Int))).length)(eL'n:L'.length=L.length)(eL'c:L'.flatten.map aB=(((L.flatten.map aB).set ((j*3)+1) (aB (((j+1):Nat):Int))).set ((j*3)+1) (aB y204)))(ej':j'=(j+1)):aC Tp 7 rZ (fO dl sk dc ov p'0 q'1 t'3 L.length (L.flatten.map aB) j) .normal (fO dl sk dc ov p'0 q'1 t'3 L'.length (L'.flatten.map aB) j'):=by
 subst ej';have raw:aC Tp 7 rZ (fO dl sk dc ov p'0 q'1 t'3 L.length (L.flatten.map aB) j) .normal (fO dl sk dc ov p'0 q'1 t'3 L.length (((L.flatten.map aB).set ((j*3)+1) (aB (((j+1):Nat):Int))).set ((j*3)+1) (aB y204)) (j+1)):=aC.fi ⟨(rng [(0,4),(7,40),(49,35)]),[7,8],[],[]⟩ [bT,bT,bT,bT,bT,bT,.x (aB y202),bT,bT,bT,bT,bT,bT,.x (aB y205),bT,bT,bT,.x (aB y204)] (gc h1 (gc h10 (gc (cT (i:=(j:Int)) (kQ1 _) h2) (gt (((L.flatten.map aB).set ((j*3)+1) (aB (((j+1):Nat):Int)))[((((j:Int)-1).toNat*3)+1)]? = some (aB y204)) (aDu (by omega) (kB (i:=((j:Int)-1).toNat) (f:=1) h5 h7 rfl)) (gc (cT (i:=((j:Int)-1)) h8 h7) (gc h6 (gc (dX h9) (g2c (aV h4) (gt (((L.flatten.map aB).set ((j*3)+1) (aB (((j+1):Nat):Int)))[((((j:Int)-1).toNat*3)+2)]? = some (aB y205)) (aDu (by omega) (kB (i:=((j:Int)-1).toNat) (f:=2) h5 h7 rfl)) (g2c (aV h4) (gc (cT (i:=((j:Int)-1)) h8 h7) (gc (aV h4) (gc h6 (g3c (aV h4) (gt (((L.flatten.map aB).set ((j*3)+1) (aB (((j+1):Nat):Int)))[((j*3)+2)]? = some (aB y202)) (aDu (by omega) (kB (i:=j) (f:=2) h5 h2 rfl)) (g2c (aV h4) (gc (cT (i:=(j:Int)) (kQ1 _) h2) (g3c (aV h4) (gc h3 (gc (cT (i:=(j:Int)) (kQ1 _) h2) (gc h1 (gc (aV h0) gn))))))))))))))))))))))
 exact raw.cast (by rw [eL'n,eL'c])
theorem bBc(h0:(j:Int)<(((isort (ltK 2) p'0).length:Nat):Int))(h1:inR (((j+1):Nat):Int))(h2:L[j]? = some [y200,y201,y202])(h3:((j*3)+1)<(L.flatten.map aB).length)(h4:(0:Int)<(j:Int))(h5:uni 3 L)(h6:inR ((j:Int)-1))(h7:L[((j:Int)-1).toNat]? = some [y203,y204,y205])(h8:0≤((j:Int)-1))(h9:y202≠y205)(eL'n:L'.length=L.length)(eL'c:L'.flatten.map aB=((L.flatten.map aB).set ((j*3)+1) (aB (((j+1):Nat):Int))))(ej':j'=(j+1)):aC Tp 7 rZ (fO dl sk dc ov p'0 q'1 t'3 L.length (L.flatten.map aB) j) .normal (fO dl sk dc ov p'0 q'1 t'3 L'.length (L'.flatten.map aB) j'):=by
 subst ej';have raw:aC Tp 7 rZ (fO dl sk dc ov p'0 q'1 t'3 L.length (L.flatten.map aB) j) .normal (fO dl sk dc ov p'0 q'1 t'3 L.length ((L.flatten.map aB).set ((j*3)+1) (aB (((j+1):Nat):Int))) (j+1)):=aC.fi ⟨(rng [(0,4),(7,40),(49,35)]),[7,8],[],[]⟩ [bT,bT,bT,bT,bT,bT,.x (aB y202),bT,bT,bT,bT,bT,bT,.x (aB y205),bT,bT,bF] (gc h1 (gc (bJ h9) (g2c (aV h4) (gt (((L.flatten.map aB).set ((j*3)+1) (aB (((j+1):Nat):Int)))[((((j:Int)-1).toNat*3)+2)]? = some (aB y205)) (aDu (by omega) (kB (i:=((j:Int)-1).toNat) (f:=2) h5 h7 rfl)) (g2c (aV h4) (gc (cT (i:=((j:Int)-1)) h8 h7) (gc (aV h4) (gc h6 (g3c (aV h4) (gt (((L.flatten.map aB).set ((j*3)+1) (aB (((j+1):Nat):Int)))[((j*3)+2)]? = some (aB y202)) (aDu (by omega) (kB (i:=j) (f:=2) h5 h2 rfl)) (g2c (aV h4) (gc (cT (i:=(j:Int)) (kQ1 _) h2) (g3c (aV h4) (gc h3 (gc (cT (i:=(j:Int)) (kQ1 _) h2) (gc h1 (gc (aV h0) gn)))))))))))))))))
 exact raw.cast (by rw [eL'n,eL'c])
theorem bBd(h0:(j:Int)<(((isort (ltK 2) p'0).length:Nat):Int))(h1:inR (((j+1):Nat):Int))(h2:L[j]? = some [y200,y201,y202])(h3:((j*3)+1)<(L.flatten.map aB).length)(h4:(j:Int)≤0)(eL'n:L'.length=L.length)(eL'c:L'.flatten.map aB=((L.flatten.map aB).set ((j*3)+1) (aB (((j+1):Nat):Int))))(ej':j'=(j+1)):aC Tp 7 rZ (fO dl sk dc ov p'0 q'1 t'3 L.length (L.flatten.map aB) j) .normal (fO dl sk dc ov p'0 q'1 t'3 L'.length (L'.flatten.map aB) j'):=by
 subst ej';have raw:aC Tp 7 rZ (fO dl sk dc ov p'0 q'1 t'3 L.length (L.flatten.map aB) j) .normal (fO dl sk dc ov p'0 q'1 t'3 L.length ((L.flatten.map aB).set ((j*3)+1) (aB (((j+1):Nat):Int))) (j+1)):=aC.fi ⟨(rng [(0,4),(7,40),(49,35)]),[7,8],[],[]⟩ [bT,bF,bF,bF,bF,bF,bF,bF,bF,bF,bF,bF,bF,bF] (gc h1 (g8c (bA h4) (g5c (bA h4) (gc h3 (gc (cT (i:=(j:Int)) (kQ1 _) h2) (gc h1 (gc (aV h0) gn)))))));exact raw.cast (by rw [eL'n,eL'c])
theorem bBe(h0:(((isort (ltK 2) p'0).length:Nat):Int)≤(j:Int)):aC Tp 7 rZ (fO dl sk dc ov p'0 q'1 t'3 L.length (L.flatten.map aB) j) (.exit 2) (fO dl sk dc ov p'0 q'1 t'3 L.length (L.flatten.map aB) j):=by
 exact aC.fi ⟨(rng [(0,4),(7,40),(49,35)]),[7,8],[],[]⟩ [bF] (gc (bA h0) gn)
theorem bUc{dl:Int}{sk dc R0:Lqq}{T1:Lqb}(h0:bG dl sk dc)(h1:bUa dl (aA sk) (aA dc) dR R0 ([]:Lqb) T1):FV Tp 28 [(.p (.agg (cR dl sk dc)))] base (.tup [(.own base),(pI 0)]) [(base,(.row 48 R0.length (R0.flatten.map aB)))]:=by
 have k1:=fk 1 (jF dl sk dc h0) rfl;have k2:=mN [] 1 (aKc (dl:=dl) (sk:=(aA sk)) (dc:=(aA dc)));have k3:=mq [1,2,3,4,5,6,7] 8 h1;exact FV.fi Tryz.func28 [k1.o,bF,k2.o,k3.o] (gc k3 (gc k2 (gc bIy (gc k1 gn))))
theorem bUd{n:Int}(h0:q.length≤1000)(er0:r0=(q.contains n)):FV Tp 85 [(pI n),(.rp [(aF q)] 0)] base (pB r0) []:=by
 subst er0;have k1:=fk 0 (oG q n h0) rfl;exact FV.fi Tryz.func85 [.x (aF q),k1.o] (gc k1 (gr (aF q) gn))
theorem bUe(n:Int)(q:List Int)(hq:q.length≤1000){base:Nat}:FV Tp 85 [.p (aB n),.rp [aF q] 0] base (pB (ocB q n)) []:=bUd hq rfl
theorem bOg{x:Int}(h0:q.length≤1000)(er0:r0=(!(ocB q x))):FMM Tp 150 [(pI x),(.ptr 0 0)] [some (.box 96 [(.fn 85 [] [(.rp [(aF q)] 0)])])] (pB r0) [some (.box 96 [(.fn 85 [] [(.rp [(aF q)] 0)])])]:=by
 subst er0;exact FMM.fi 1 ⟨[],[],[],[]⟩ Tryz.func150 [.c (pB (ocB q x)) []] (gc (fk 1 (bUe x q h0) rfl) gn)
theorem aVy(x:Int)(q:List Int)(he:q.length≤1000):FMM Tp 150 [(pI x),.ptr 0 0] [some (.box 96 [(.fn 85 [] [(.rp [(aF q)] 0)])])] (pB (!(ocB q x))) [some (.box 96 [(.fn 85 [] [(.rp [(aF q)] 0)])])]:=bOg he rfl
def iF(l:List Int)(q:List Int)(i:Nat):St:=⟨fr 19 [(0,(.p (aF l))),(1,(.fn 150 [] [(.ptr 0 0)])),(7,(pI (l.length:Int))),(8,(pI (i:Int)))],[some (.box 96 [(.fn 85 [] [(.rp [(aF q)] 0)])])]⟩
theorem bOh(hl0:aH Tp 1 yB (iF l q 0) (.exit 0) (iF l q i'0)):FMM Tp 129 [(.p (aF l)),(.fn 150 [] [(.ptr 0 0)])] [some (.box 96 [(.fn 85 [] [(.rp [(aF q)] 0)])])] (pI (-1:Int)) [some (.box 96 [(.fn 85 [] [(.rp [(aF q)] 0)])])]:=by
 exact FMM.fi 1 ⟨[],[],[],[]⟩ Tryz.func129 [hl0.k 6 ⟨(rng [(2,5),(9,10)]),[],[],[]⟩] (gc hl0.code gn)
theorem bOi(hl0:aH Tp 1 yB (iF l q 0) .ret (dI (iF l q i'0) [(4,(pI (i'0:Int)))])):FMM Tp 129 [(.p (aF l)),(.fn 150 [] [(.ptr 0 0)])] [some (.box 96 [(.fn 85 [] [(.rp [(aF q)] 0)])])] (pI (i'0:Int)) [some (.box 96 [(.fn 85 [] [(.rp [(aF q)] 0)])])]:=by
 exact FMM.fi 1 ⟨[],[],[],[]⟩ Tryz.func129 [hl0.k 6 ⟨(rng [(2,5),(9,10)]),[],[],[]⟩] (gc hl0.code gn)
theorem aSb(h0:(i:Int)<(l.length:Int))(h1:l[i]? = some x100)(h2:q.length≤1000)(h3:(ocB q x100)=false):aC Tp 1 yB (iF l q i) .ret (dI (iF l q i) [(4,(pI (i:Int)))]):=by
 have k1:=mq [0] 1 (aVy x100 q h2);exact aC.fi ⟨(rng [(2,2),(5,2),(9,10)]),[],[],[]⟩ [bT,.x (aB x100),k1.o,bT] (gc (bI h3) (gc k1 (gc (atm aB h1) (gc (ixn aB h1) (gc (aV h0) gn)))))
theorem aSc(h0:(i:Int)<(l.length:Int))(h1:l[i]? = some x100)(h2:q.length≤1000)(h3:(ocB q x100)=true)(h4:inR (((i+1):Nat):Int))(ei':i'=(i+1)):aC Tp 1 yB (iF l q i) .normal (iF l q i'):=by
 subst ei';have k1:=mq [0] 1 (aVy x100 q h2);exact aC.fi ⟨(rng [(2,5),(9,10)]),[],[],[]⟩ [bT,.x (aB x100),k1.o,bF] (gc h4 (gc (aI h3) (gc k1 (gc (atm aB h1) (gc (ixn aB h1) (gc (aV h0) gn))))))
theorem aSd(h0:(l.length:Int)≤(i:Int)):aC Tp 1 yB (iF l q i) (.exit 0) (iF l q i):=by
 exact aC.fi ⟨(rng [(2,5),(9,10)]),[],[],[]⟩ [bF] (gc (bA h0) gn)
theorem bOj(l:List Int)(q:List Int)(hl:l.length≤1000)(he:∀ x∈l,q.length≤1000):FMM Tp 129 [.p (aF l),(.fn 150 [] [(.ptr 0 0)])] [some (.box 96 [(.fn 85 [] [(.rp [(aF q)] 0)])])] (pI (bK (fun x => !(ocB q x)) l)) [some (.box 96 [(.fn 85 [] [(.rp [(aF q)] 0)])])]:=by
 rcases aH.find (P:=Tp) (k:=1) (b:=yB) (fun i=>iF l q i) (fun i _=>dI (iF l q i) [(4,.p (aB (i:Int)))]) (iF l q l.length) .ret (.exit 0) (by simp) (by simp) (fun x => !(ocB q x)) l
  (fun i x hx hp=>by exact aSc (by have:=bC hx;omega) hx (he _ (kQ5 hx)) (by simpa using hp) (aO (by have:=bC hx;omega)) rfl)
  (fun i x hx hp=>by exact aSb (by have:=bC hx;omega) hx (he _ (kQ5 hx)) (by simpa using hp))
  (aSd (l:=l) (i:=l.length) (by omega)) with ⟨i,x,h1,h2,h3,h4⟩ | ⟨h1,h2,h3⟩
 ·rw [iA h2];exact bOi h4
 ·rw [iB h1];exact bOh h3
theorem bOk(h0:l.length≤1000)(h1:∀ x∈l,q.length≤1000)(er0:r0=(decide ((bK (fun x => !(ocB q x)) l) ≥ (0:Int)))):FMM Tp 149 [(.p (aF l)),(.fn 150 [] [(.ptr 0 0)])] [some (.box 96 [(.fn 85 [] [(.rp [(aF q)] 0)])])] (pB r0) [some (.box 96 [(.fn 85 [] [(.rp [(aF q)] 0)])])]:=by
 subst er0;have k1:=mq [0] 1 (bOj l q h0 h1);exact FMM.fi 1 ⟨[],[],[],[]⟩ Tryz.func149 [k1.o] (gc k1 gn)
theorem bOl(l:List Int)(q:List Int)(hl:l.length≤1000)(he:∀ x∈l,q.length≤1000):FMM Tp 149 [.p (aF l),(.fn 150 [] [(.ptr 0 0)])] [some (.box 96 [(.fn 85 [] [(.rp [(aF q)] 0)])])] (pB (l.any (fun x => !(ocB q x)))) [some (.box 96 [(.fn 85 [] [(.rp [(aF q)] 0)])])]:=bOk hl he (pD _ _).symm
theorem bUf(h0:l.length≤1000)(h1:∀ x∈l,q.length≤1000)(er0:r0=(!(l.any (fun x => !(ocB q x))))):FV Tp 84 [(.p (aF l)),(.fn 85 [] [(.rp [(aF q)] 0)])] base (pB r0) []:=by
 subst er0;have k1:=mq [0] 1 (bOl l q h0 h1);exact FV.fi Tryz.func84 [k1.o] (gc k1 gn)
theorem bUg(l:List Int)(q:List Int)(hl:l.length≤1000)(he:∀ x∈l,q.length≤1000){base:Nat}:FV Tp 84 [.p (aF l),(.fn 85 [] [(.rp [(aF q)] 0)])] base (pB (l.all (ocB q))) []:=bUf hl he (by rw [List.all_eq_not_any_not])
def iQ(dl:Int)(sk:Lqq)(dc:Lqq)(u:List Int)(i:Int):St:=⟨fr 45 [(1,(.p (aF u))),(6,(.rp (aX dl (aA sk) (aA dc)) 0)),(9,(pI i))],[]⟩
theorem bUh{i'0:Int}{R1:Lqq}{T2:Lqb}(h0:bG dl sk dc)(h1:bZ (aA dc))(h2:u.length≤1000)(h3:∀ x∈u,(aN dl (aA dc)).length≤1000)(h4:(u.all (ocB (aN dl (aA dc))))=true)(hl5:aH Tp 0 aJt (iQ dl sk dc u (1:Int)) (.exit 0) (iQ dl sk dc u i'0))(h6:bUa dl (aA sk) (aA dc) (aF u) R1 ([]:Lqb) T2):FV Tp 21 [(.p (.agg (cR dl sk dc))),(.p (aF u))] base (.tup [(.own base),(pI 0)]) [(base,(.row 48 R1.length (R1.flatten.map aB)))]:=by
 have k1:=fk 1 (jF dl sk dc h0) rfl;have k2:=fk 1 (qE (dl:=dl) (sk:=(aA sk)) (dc:=(aA dc)) h1) rfl;have k3:=fk 1 (bUg u (aN dl (aA dc)) h2 h3) rfl;have k4:=mN [] 0 (qH (dl:=dl) (sk:=(aA sk)) (dc:=(aA dc)) (on:=u.length) (ol:=(u.map aB)));have k5:=mq [0,1,2,3,4,5,6] 7 h6;exact FV.fi Tryz.func21 [k1.o,bF,k2.o,.g 2 ⟨[],[0],[1,2],[]⟩,k3.o,bF,hl5.k 4 ⟨(rng [(0,1),(2,4),(7,2),(10,30)]),[],[],[]⟩,k4.o,k5.o] (gc k5 (gc k4 (gc hl5.code (gc (aI h4) (gc k3 (gc k2 (gc bIy (gc k1 gn))))))))
theorem bBf{i:Int}(h0:i<(u.length:Int))(h1:u[i.toNat]? = some x100)(h2:0≤i)(h3:inR (i-1))(h4:u[(i-1).toNat]? = some x101)(h5:0≤(i-1))(h6:x100≤x101):aC Tp 0 aJt (iQ dl sk dc u i) .ret (dI (iQ dl sk dc u i) [(4,(.p dR)),(5,(pI 4))]):=by
 exact aC.fi ⟨(rng [(0,1),(2,2),(7,2),(10,30)]),[],[],[]⟩ [bT,.x (aB x100),.x (aB x101),bT] (gc (aAm h6) (gt ((u.map aB)[((i-1).toNat*1)]? = some (aB x101)) (iO (i:=(i-1).toNat) h4) (gc (iP (g:=aB) h5 h4) (gc h3 (gt ((u.map aB)[(i.toNat*1)]? = some (aB x100)) (iO (i:=i.toNat) h1) (gc (iP (g:=aB) h2 h1) (gc (aV h0) gn)))))))
theorem bBg{i i':Int}(h0:i<(u.length:Int))(h1:u[i.toNat]? = some x100)(h2:0≤i)(h3:inR (i-1))(h4:u[(i-1).toNat]? = some x101)(h5:0≤(i-1))(h6:x101<x100)(h7:inR (i+1))(ei':i'=(i+1)):aC Tp 0 aJt (iQ dl sk dc u i) .normal (iQ dl sk dc u i'):=by
 subst ei';exact aC.fi ⟨(rng [(0,1),(2,4),(7,2),(10,30)]),[],[],[]⟩ [bT,.x (aB x100),.x (aB x101),bF] (gc h7 (gc (qU h6) (gt ((u.map aB)[((i-1).toNat*1)]? = some (aB x101)) (iO (i:=(i-1).toNat) h4) (gc (iP (g:=aB) h5 h4) (gc h3 (gt ((u.map aB)[(i.toNat*1)]? = some (aB x100)) (iO (i:=i.toNat) h1) (gc (iP (g:=aB) h2 h1) (gc (aV h0) gn))))))))
theorem aHn{i:Int}(h0:(u.length:Int)≤i):aC Tp 0 aJt (iQ dl sk dc u i) (.exit 0) (iQ dl sk dc u i):=by
 exact aC.fi ⟨(rng [(0,1),(2,4),(7,2),(10,30)]),[],[],[]⟩ [bF] (gc (bA h0) gn)
end
section
variable {n8:Int}{o q:List Int}{i l s:Nat}

def fC(q:List Int)(s i:Nat):List Int:=((List.range i).filter fun j=>s / 2 ^ j % 2 == 1).map fun j=>q.getD j 0
def gL(q:List Int):Lqq:=(List.range (2 ^ q.length)).map fun s=>fC q s q.length

theorem bNv(h0:0≤(q.length:Int)∧(q.length:Int)≤60∧IntKind.i64 = .i64)(h1:inR ((1:Int)*2 ^ ((q.length:Int).toNat))):dU Tp 0 (sub (cd Tryz.f182) [0]) ⟨fr 35 [(0,(.yld l)),(1,(.rp [(aF q)] 0))],[]⟩ .normal ⟨fr 35 [(0,(.yld l)),(1,(.rp [(aF q)] 0)),(8,(pI ((1:Int)*2 ^ ((q.length:Int).toNat)))),(9,(pI 0))],[]⟩:=by
 exact dU.fi ⟨(rng [(2,6),(10,25)]),[],[],[]⟩ [.x (aF q)] (gc h1 (gc h0 (gr (aF q) gn)))
theorem bNw:dU Tp 0 (sub (cd Tryz.f182) [1,0,0,0]) ⟨fr 35 [(0,(.yld l)),(1,(.rp [(aF q)] 0)),(8,(pI n8)),(9,(pI (s:Int)))],[]⟩ .normal ⟨fr 35 [(0,(.yld l)),(1,(.rp [(aF q)] 0)),(8,(pI n8)),(9,(pI (s:Int))),(10,(pB (decide ((s:Int)<n8))))],[]⟩:=by
 exact dU.fi ⟨(rng [(2,6),(11,24)]),[],[],[]⟩ [] gn
theorem bNx:dU Tp 0 (sub (cd Tryz.f182) [1,0,0,1,1,0,0,0]) ⟨fr 35 [(0,(.yld l)),(1,(.rp [(aF q)] 0)),(8,(pI n8)),(9,(pI (s:Int)))],[]⟩ .normal ⟨fr 35 [(0,(.yld l)),(1,(.rp [(aF q)] 0)),(3,(pI (s:Int))),(8,(pI n8)),(9,(pI (s:Int)))],[]⟩:=by
 exact dU.fi ⟨(rng [(2,1),(4,4),(10,25)]),[],[],[]⟩ [] gn
theorem bNy:dU Tp 0 (sub (cd Tryz.f182) [1,0,0,1,1,0,0,1,0]) ⟨fr 35 [(0,(.yld l)),(1,(.rp [(aF q)] 0)),(3,(pI (s:Int))),(8,(pI n8)),(9,(pI (s:Int)))],[]⟩ .normal ⟨fr 35 [(0,(.yld l)),(1,(.rp [(aF q)] 0)),(3,(pI (s:Int))),(4,(.p dR)),(8,(pI n8)),(9,(pI (s:Int)))],[]⟩:=by
 exact dU.fi ⟨(rng [(2,1),(5,3),(10,25)]),[],[],[]⟩ [] gn
theorem bNz:dU Tp 0 (sub (cd Tryz.f182) [1,0,0,1,1,0,0,1,1,0,0]) ⟨fr 35 [(0,(.yld l)),(1,(.rp [(aF q)] 0)),(3,(pI (s:Int))),(4,(.p dR)),(8,(pI n8)),(9,(pI (s:Int)))],[]⟩ .normal ⟨fr 35 [(0,(.yld l)),(1,(.rp [(aF q)] 0)),(3,(pI (s:Int))),(4,(.own 0)),(8,(pI n8)),(9,(pI (s:Int))),(13,(pI (q.length:Int))),(14,(pI 0))],[some (.row 3 0 [])]⟩:=by
 exact dU.fi ⟨(rng [(2,1),(5,3),(10,3),(15,20)]),[0],[],[(4,3)]⟩ [.x (aF q)] (gr (aF q) gn)
theorem bOa:dU Tp 0 (sub (cd Tryz.f182) [1,0,0,1,1,0,0,1,1,0,1,0,0,0]) ⟨fr 35 [(0,(.yld l)),(1,(.rp [(aF q)] 0)),(3,(pI (s:Int))),(4,(.own 0)),(8,(pI n8)),(9,(pI (s:Int))),(13,(pI (q.length:Int))),(14,(pI (i:Int)))],[some (.row 3 o.length (o.map aB))]⟩ .normal ⟨fr 35 [(0,(.yld l)),(1,(.rp [(aF q)] 0)),(3,(pI (s:Int))),(4,(.own 0)),(8,(pI n8)),(9,(pI (s:Int))),(13,(pI (q.length:Int))),(14,(pI (i:Int))),(15,(pB (decide ((i:Int)<(q.length:Int)))))],[some (.row 3 o.length (o.map aB))]⟩:=by
 exact dU.fi ⟨(rng [(2,1),(5,3),(10,3),(16,19)]),[0],[],[]⟩ [] gn
theorem bOb:dU Tp 0 (sub (cd Tryz.f182) [1,0,0,1,1,0,0,1,1,0,1,0,0,1,1,0,0,0]) ⟨fr 35 [(0,(.yld l)),(1,(.rp [(aF q)] 0)),(3,(pI (s:Int))),(4,(.own 0)),(8,(pI n8)),(9,(pI (s:Int))),(13,(pI (q.length:Int))),(14,(pI (i:Int)))],[some (.row 3 o.length (o.map aB))]⟩ .normal ⟨fr 35 [(0,(.yld l)),(1,(.rp [(aF q)] 0)),(3,(pI (s:Int))),(4,(.own 0)),(5,(pI (i:Int))),(8,(pI n8)),(9,(pI (s:Int))),(13,(pI (q.length:Int))),(14,(pI (i:Int)))],[some (.row 3 o.length (o.map aB))]⟩:=by
 exact dU.fi ⟨(rng [(2,1),(6,2),(10,3),(15,20)]),[0],[],[]⟩ [] gn
theorem bOc(h0:0≤((s:Int).fdiv (2 ^ min ((i:Int).toNat) (IntKind.bits .i64)))∧((s:Int).fdiv (2 ^ min ((i:Int).toNat) (IntKind.bits .i64)))≤9223372036854775807∧(1:Int)=1∧IntKind.i64 = .i64):dU Tp 0 (sub (cd Tryz.f182) [1,0,0,1,1,0,0,1,1,0,1,0,0,1,1,0,0,1,0]) ⟨fr 35 [(0,(.yld l)),(1,(.rp [(aF q)] 0)),(3,(pI (s:Int))),(4,(.own 0)),(5,(pI (i:Int))),(8,(pI n8)),(9,(pI (s:Int))),(13,(pI (q.length:Int))),(14,(pI (i:Int)))],[some (.row 3 o.length (o.map aB))]⟩ .normal ⟨fr 35 [(0,(.yld l)),(1,(.rp [(aF q)] 0)),(3,(pI (s:Int))),(4,(.own 0)),(5,(pI (i:Int))),(8,(pI n8)),(9,(pI (s:Int))),(13,(pI (q.length:Int))),(14,(pI (i:Int))),(21,(pB ((((s:Int).fdiv (2 ^ min ((i:Int).toNat) (IntKind.bits .i64))) % 2) == (1:Int))))],[some (.row 3 o.length (o.map aB))]⟩:=by
 exact dU.fi ⟨(rng [(2,1),(6,2),(10,3),(15,6),(22,13)]),[0],[],[]⟩ [] (gc h0 (gt (0≤(i:Int)) (kQ1 _) gn))
theorem bOd{x0:Int}(h0:q[i]? = some x0)(h1:[(aB x0)].length=1*1∧o.length+1≤1000000):dU Tp 0 (sub (cd Tryz.f182) [1,0,0,1,1,0,0,1,1,0,1,0,0,1,1,0,0,1,1,0]) ⟨fr 35 [(0,(.yld l)),(1,(.rp [(aF q)] 0)),(3,(pI (s:Int))),(4,(.own 0)),(5,(pI (i:Int))),(8,(pI n8)),(9,(pI (s:Int))),(13,(pI (q.length:Int))),(14,(pI (i:Int)))],[some (.row 3 o.length (o.map aB))]⟩ .normal ⟨fr 35 [(0,(.yld l)),(1,(.rp [(aF q)] 0)),(3,(pI (s:Int))),(4,(.own 0)),(8,(pI n8)),(9,(pI (s:Int))),(13,(pI (q.length:Int))),(14,(pI (i:Int)))],[some (.row 3 (o.length+1) ((o.map aB)++[(aB x0)]))]⟩:=by
 exact dU.fi ⟨(rng [(2,1),(5,3),(10,3),(15,20)]),[2],[],[]⟩ [.x (aF q),.x (aB x0)] (gc h1 (gc (atm aB h0) (gc (ixn aB h0) (gr (aF q) gn))))
theorem bOe(h0:inR (((i+1):Nat):Int)):dU Tp 0 (sub (cd Tryz.f182) [1,0,0,1,1,0,0,1,1,0,1,0,0,1,1,1]) ⟨fr 35 [(0,(.yld l)),(1,(.rp [(aF q)] 0)),(3,(pI (s:Int))),(4,(.own 0)),(8,(pI n8)),(9,(pI (s:Int))),(13,(pI (q.length:Int))),(14,(pI (i:Int)))],[some (.row 3 o.length (o.map aB))]⟩ .normal ⟨fr 35 [(0,(.yld l)),(1,(.rp [(aF q)] 0)),(3,(pI (s:Int))),(4,(.own 0)),(8,(pI n8)),(9,(pI (s:Int))),(13,(pI (q.length:Int))),(14,(pI (((i+1):Nat):Int)))],[some (.row 3 o.length (o.map aB))]⟩:=by
 exact dU.fi ⟨(rng [(2,1),(5,3),(10,3),(15,20)]),[0],[],[]⟩ [] (gc h0 gn)
theorem bOf(h0:inR (((s+1):Nat):Int)):dU Tp 0 (sub (cd Tryz.f182) [1,0,0,1,1,1]) ⟨fr 35 [(0,(.yld l)),(1,(.rp [(aF q)] 0)),(8,(pI n8)),(9,(pI (s:Int)))],[]⟩ .normal ⟨fr 35 [(0,(.yld l)),(1,(.rp [(aF q)] 0)),(8,(pI n8)),(9,(pI (((s+1):Nat):Int)))],[]⟩:=by
 exact dU.fi ⟨(rng [(2,6),(10,25)]),[],[],[]⟩ [] (gc h0 gn)
end
end KV
end Go.Proofs
section
namespace Go.Proofs
open Go.RowKit
namespace KV
attribute [local go_sem] Oper.semAt_some
theorem aBa(l:List (Nat × AV)):∀ (n k:Nat),(frm l n k).length=n
 | 0,_=>rfl
 | n+1,k=>by unfold frm;rw [qZ,aBa]
theorem aRz(l:List (Nat × AV)):∀ (n k j:Nat) (h:j<(frm l n k).length),(frm l n k)[j]=look l (k+j)
 | 0,_,j,h=>by simp [frm] at h
 | n+1,k,0,h=>rfl
 | n+1,k,j+1,h=>by
  have:=aRz l n (k+1) j (by rw [aBa] at h ⊢;omega)
  rw [show k+(j+1)=k+1+j by omega]
  exact this
theorem aNp{C:Cx}{M:Mem}{w:World}{us:Array Value}:∀ {l:List (Nat × AV)},(∀ p∈l,Rep C M w p.2 (us.getD p.1 undef))→∀ j,Rep C M w (look l j) (us.getD j undef)
 | [],_,j => .any _
 | (i,x)::r,h,j=>by
  unfold look
  split
  ·rename_i hb
   rw [← Nat.eq_of_beq_eq_true hb];exact h (i,x) (gY ..)
  ·exact aNp (fun p hp=>h p (kQ6 _ hp)) j
theorem aNq{C:Cx}{M:Mem}{w:World}{us:Array Value}{n:Nat}{l:List (Nat × AV)}(hs:us.size=n)(h:∀ p∈l,Rep C M w p.2 (us.getD p.1 undef)):eI C M w (fr n l) us:=by
 refine ⟨by rw [hs,aBa],fun i hi => ?_⟩
 rw [aRz,gN];exact aNp h _
theorem vC{C:Cx}{M:Mem}{w:World}{us:Array Value}{n:Nat}{l:List (Nat × AV)}(h:eI C M w (fr n l) us)(i:Nat)(hi:i<n):Rep C M w (look l i) (us.getD i undef):=by
 have:=h.rep i (by rw [aBa];exact hi)
 rwa [aRz,gN] at this

section
variable {P:Program}
def InK(Cv:Cx)(V:World)(v0:Value)(st:St)(a:Act)(w:World):Prop:=Sim Tp Cv [] V st a w∧a.tmps.getD 1 undef=v0∧a.defers=[]
theorem InK.step{Cv:Cx}{V:World}{v0:Value}{c:Code}{st st':St}{a:Act}{w:World}{n:Nat}{K:Act→World→Prop}{Q:Exit→Act→World→Prop}(h:dU Tp 0 c st .normal st')(hw:wrR c 1=false)(hi:InK Cv V v0 st a w)
  (hK:∀ a' w',InK Cv V v0 st' a' w'→K a' w'):c.wpIn (Fen none) n Tp (Exit.then K Q) a w :=
 wpIn_mono (h Cv [] V a w (by simp) hi.1 none n) fun e a' w' hq=>by
  obtain ⟨he,hs,hk⟩:=hq;subst he;exact hK a' w' ⟨hs,(hk.1 1 hw).trans hi.2.1,hk.2.trans hi.2.2⟩
end
noncomputable abbrev cO:Code:=cd Tryz.f182
abbrev stA(l:Nat)(q:List Int)(n8:Int)(s:Nat):St:=⟨fr 35 [(0,.yld l),(1,.rp [aF q] 0),(8,.p (aB n8)),(9,.p (aB (s:Int)))],[]⟩
abbrev stB(l:Nat)(q:List Int)(n8:Int)(s:Nat)(o:List Int)(i:Nat):St:=⟨fr 35 [(0,.yld l),(1,.rp [aF q] 0),(3,.p (aB (s:Int))),(4,.own 0),(8,.p (aB n8)),(9,.p (aB (s:Int))),(13,.p (aB (q.length:Int))),(14,.p (aB (i:Int)))],[some (.row 3 o.length (o.map aB))]⟩
theorem bAv(q:List Int)(s i:Nat):fC q s (i+1)=fC q s i++if s / 2 ^ i % 2 == 1 then [q.getD i 0] else []:=by
 unfold fC;rw [List.range_succ,lR,gJ]
 congr 1
 cases h:s / 2 ^ i % 2 == 1 <;> simp [h]
theorem aNr(q:List Int)(s i:Nat):(fC q s i).length≤i:=by
 unfold fC;rw [eR];have:=tR (fun j=>s / 2 ^ j % 2 == 1) (List.range i)
 rwa [bMy] at this
theorem bNu(s i:Nat)(hi:i≤60):(s:Int).fdiv (2 ^ min ((i:Int).toNat) (IntKind.bits .i64))=((s / 2 ^ i:Nat):Int):=by
 have hb:IntKind.bits .i64=64:=rfl;rw [bHq,hb,Nat.min_eq_left (by omega),Int.fdiv_eq_ediv_of_nonneg _ (by exact_mod_cast Nat.zero_le _)]
 push_cast
 rfl
theorem bIp{Cv:Cx}{V:World}{v0:Value}{l:Nat}{q:List Int}{n8:Int}{s:Nat}(hq:q.length≤60)(hs:s≤9223372036854775807){n:Nat}{K:Act→World→Prop}{Q:Exit→Act→World→Prop}{a:Act}{w:World}
  (hi:InK Cv V v0 (stB l q n8 s [] 0) a w) (hK:∀ a' w',InK Cv V v0 (stB l q n8 s (fC q s q.length) q.length) a' w'→K a' w') :
  (Code.block 2 (.loop (sub cO [1,0,0,1,1,0,0,1,1,0,1,0,0]))).wpIn (Fen none) n Tp (Exit.then K Q) a w:=by
 refine wpIn_block ?_;refine wpIn_loop_ghost (fun k a w=>∃ i,i≤q.length∧k=q.length-i∧InK Cv V v0 (stB l q n8 s (fC q s i) i) a w) q.length ⟨0,by omega,by omega,hi⟩ ?_
 rintro k a w ⟨i,hil,rfl,hI⟩;have e1:sub cO [1,0,0,1,1,0,0,1,1,0,1,0,0] = .seq (sub cO [1,0,0,1,1,0,0,1,1,0,1,0,0,0]) (.seq (.cond (.tmp 15) .skip (.exit 2)) (.seq (.block 3 (.seq (sub cO [1,0,0,1,1,0,0,1,1,0,1,0,0,1,1,0,0,0]) (.seq (sub cO [1,0,0,1,1,0,0,1,1,0,1,0,0,1,1,0,0,1,0]) (.cond (.tmp 21) (sub cO [1,0,0,1,1,0,0,1,1,0,1,0,0,1,1,0,0,1,1,0]) .skip)))) (sub cO [1,0,0,1,1,0,0,1,1,0,1,0,0,1,1,1]))):=by kernel_rfl
 rw [e1];refine wpIn_seq ?_;refine InK.step bOa (by kernel_rfl) hI fun a1 w1 h1 => ?_
 refine wpIn_seq ?_;obtain ⟨⟨C1,hS1,_⟩,_⟩:=id h1;have hc15:a1.eval (.tmp 15) = .bool (decide ((i:Int)<(q.length:Int))):=by
  have:=vC hS1 15 (by omega)
  show a1.tmps.getD 15 undef=_;generalize a1.tmps.getD 15 undef=u at this
  have h2:Rep C1 _ w1 (.p (.v (.bool (decide ((i:Int)<(q.length:Int)))))) u:=this;cases h2 with
  | p _ _ h=>cases h;rfl
 by_cases hlt:i<q.length
 ·refine wpIn_cond_true (by rw [hc15,decide_eq_true (by omega)]) (wpIn_skip ?_)
  show Code.wpIn _ _ _ _ _ _ _;have h1':InK Cv V v0 (stB l q n8 s (fC q s i) i) a1 w1:=⟨(eQ (g:=⟨[15],[0],[],[]⟩) (k:=0) (dM _) (by kernel_rfl) h1.1),h1.2⟩
  refine wpIn_seq ?_;have hsd:=bNu s i (by omega)
  have hx:q[i]? = some (q.getD i 0):=by rw [kQ4,kQ0 hlt];rfl
  have hpl:=aNr q s i;have hfin:∀ a2 w2,InK Cv V v0 (stB l q n8 s (fC q s (i+1)) i) a2 w2→(sub cO [1,0,0,1,1,0,0,1,1,0,1,0,0,1,1,1]).wpIn (Fen none) n Tp (Exit.then (fun a' w'=>∃ n',n'<q.length-i∧∃ i',i'≤q.length∧n'=q.length-i'∧InK Cv V v0 (stB l q n8 s (fC q s i') i') a' w') (Exit.inBlock 2 (Exit.then K Q))) a2 w2:=fun a2 w2 h2 =>
   InK.step (bOe (aO (by omega))) (by kernel_rfl) h2 fun a3 w3 h3=>⟨q.length-(i+1),by omega,i+1,by omega,rfl,h3⟩
  refine wpIn_block ?_;refine wpIn_seq ?_;refine InK.step bOb (by kernel_rfl) h1' fun a2 w2 h2 => ?_
  refine wpIn_seq ?_;have hle:s / 2 ^ i≤s:=Nat.div_le_self _ _;refine InK.step (bOc (s:=s) (i:=i) ⟨by rw [hsd];exact kQ1 _,by rw [hsd];exact Int.ofNat_le.2 (fT hle hs),rfl,rfl⟩) (by kernel_rfl) h2 fun a3 w3 h3 => ?_
  obtain ⟨⟨C3,hS3,_⟩,_⟩:=id h3;have hc21:a3.eval (.tmp 21) = .bool (s / 2 ^ i % 2 == 1):=by
   have:=vC hS3 21 (by omega)
   show a3.tmps.getD 21 undef=_;generalize a3.tmps.getD 21 undef=u at this
   have h2:Rep C3 _ w3 (.p (.v (.bool (((s:Int).fdiv (2 ^ min ((i:Int).toNat) (IntKind.bits .i64))) % 2 == 1)))) u:=this;cases h2 with
   | p _ _ h =>
    cases h;rw [hsd]
    congr 1
    generalize s / 2 ^ i=z;rw [Bool.eq_iff_iff,beq_iff_eq,beq_iff_eq];omega
  have h3':InK Cv V v0 ⟨fr 35 [(0,.yld l),(1,.rp [aF q] 0),(3,.p (aB (s:Int))),(4,.own 0),(5,.p (aB (i:Int))),(8,.p (aB n8)),(9,.p (aB (s:Int))),(13,.p (aB (q.length:Int))),(14,.p (aB (i:Int)))],[some (.row 3 (fC q s i).length ((fC q s i).map aB))]⟩ a3 w3:=⟨(eQ (g:=⟨[21],[0],[],[]⟩) (k:=0) (dM _) (by kernel_rfl) h3.1),h3.2⟩
  have hp:=bAv q s i;cases hb:s / 2 ^ i % 2 == 1 with
  | true =>
   refine wpIn_cond_true (by rw [hc21,hb]) ?_
   rw [hb,if_pos rfl] at hp
   refine wpIn_mono (bOd (o:=fC q s i) hx ⟨rfl,by omega⟩ Cv [] V a3 w3 (by simp) h3'.1 none n) ?_
   rintro e a4 w4 ⟨rfl,h4,hk4⟩;refine hfin a4 w4 ⟨?_,(hk4.1 1 (by kernel_rfl)).trans h3'.2.1,hk4.2.trans h3'.2.2⟩
   have e8:(stB l q n8 s (fC q s (i+1)) i)=⟨fr 35 [(0,.yld l),(1,.rp [aF q] 0),(3,.p (aB (s:Int))),(4,.own 0),(8,.p (aB n8)),(9,.p (aB (s:Int))),(13,.p (aB (q.length:Int))),(14,.p (aB (i:Int)))],[some (.row 3 ((fC q s i).length+1) ((fC q s i).map aB++[aB (q.getD i 0)]))]⟩:=by
    rw [hp];unfold stB;rw [kT,gJ];rfl
   rw [e8];exact h4
  | false =>
   refine wpIn_cond_false (by rw [hc21,hb]) (wpIn_skip ?_)
   rw [hb,if_neg (by simp),List.append_nil] at hp
   refine hfin a3 w3 ?_;rw [hp];exact ⟨(eQ (g:=⟨[5],[0],[],[]⟩) (k:=0) (dM _) (by kernel_rfl) h3'.1),h3'.2⟩
 ·obtain rfl:i=q.length:=by omega
  refine wpIn_cond_false (by rw [hc15,decide_eq_false (by omega)]) (wpIn_exit ?_)
  show Exit.inBlock 2 (Exit.then K Q) (.exit 2) a1 w1
  unfold Exit.inBlock;dsimp only;rw [if_pos rfl];exact hK a1 w1 ⟨(eQ (g:=⟨[15],[0],[],[]⟩) (k:=0) (dM _) (by kernel_rfl) h1.1),h1.2⟩
theorem aJr{a:Act}{W:World}{l id t0 t1 t2 t3:Nat}{ts:Array TypeId}{p0 p1 p2 p3:String}{f0 f1 f2 f3:Array Edge}{u:Value}{A B:World→Prop}{K:Act→World→Prop}{Q:Exit→Act→World→Prop}
  (hs:a.tmps.size=35) (h0:a.tmps.getD 0 undef = .func (.yield l) #[] #[]) (h4:a.tmps.getD 4 undef=u)
  (hy:YieldAt (Fen none) 1 Tp l #[u] W (fun e W'=>(e = .returned (.bool true)∧A W')∨(e = .returned (.bool false)∧B W')))
  (hA:∀ a' W',A W'→a'.defers=a.defers→a'.tmps.size=35→(∀ i,i<30→a'.tmps.getD i undef=a.tmps.getD i undef)→a'.tmps.getD 33 undef = .bool false→K a' W')
  (hB:∀ a' W',B W'→a'.defers=a.defers→a'.tmps.getD 33 undef = .bool true→K a' W') :
  (Code.region id #[{ dst:=some 30,op := .move (.tmp 0),type:=t0,pos:=p0,after:=f0,guard:=none },{ dst:=some 31,op := .move (.tmp 4),type:=t1,pos:=p1,after:=f1,guard:=none },
   {dst:=some 32,op := .call { callee := .value (.tmp 30),args := #[.tmp 31],argTypes:=ts },type:=t2,pos:=p2,after:=f2,guard:=none },{ dst:=some 33,op := .unOp .not 4 (.tmp 32),type:=t3,pos:=p3,after:=f3,guard:=none }] false).wpIn (Fen none) 2 Tp (Exit.then K Q) a W:=by
 refine wpIn_region_lit (wpListIn_plain rfl fun K1 hK1 => ?_)
 unfold Oper.wpIn;refine ⟨fun f _=>trivial,?_⟩
 rw [Oper.semAt_plain _ _ _ (by intro c hc';cases hc')]
 simp only [execOp,Sem.run_pure];refine hK1 _ _ (wpListIn_plain rfl fun K2 hK2 => ?_)
 unfold Oper.wpIn;refine ⟨fun f _=>trivial,?_⟩
 rw [Oper.semAt_plain _ _ _ (by intro c hc';cases hc')]
 simp only [execOp,Sem.run_pure];refine hK2 _ _ (wpListIn_plain rfl fun K3 hK3 => ?_)
 unfold Oper.wpIn;refine ⟨fun f _=>trivial,?_⟩
 rw [Oper.semAt_plain _ _ _ (by intro c hc';cases hc')]
 obtain ⟨fn,tmps,assign,body,hrun,hR⟩:=hy;have e30:(((a.put (some 30) (a.eval (.tmp 0))).put (some 31) ((a.put (some 30) (a.eval (.tmp 0))).eval (.tmp 4)))).eval (.tmp 30) = .func (.yield l) #[] #[]:=by
  show ((a.tmps.setIfInBounds 30 (a.tmps.getD 0 undef)).setIfInBounds 31 _).getD 30 undef=_;rw [h0];simp [kQ2,Array.getElem?_setIfInBounds,hs]
 have e31:(((a.put (some 30) (a.eval (.tmp 0))).put (some 31) ((a.put (some 30) (a.eval (.tmp 0))).eval (.tmp 4)))).eval (.tmp 31)=u:=by
  show ((a.tmps.setIfInBounds 30 (a.tmps.getD 0 undef)).setIfInBounds 31 ((a.tmps.setIfInBounds 30 (a.tmps.getD 0 undef)).getD 4 undef)).getD 31 undef=_;rw [← h4];simp [kQ2,Array.getElem?_setIfInBounds,hs]
 have e45:∀ i,i<30→(((a.put (some 30) (a.eval (.tmp 0))).put (some 31) ((a.put (some 30) (a.eval (.tmp 0))).eval (.tmp 4)))).tmps.getD i undef=a.tmps.getD i undef:=fun i hi=>by
  rw [pE (fun e=>by cases e;omega),pE (fun e=>by cases e;omega)]
 have eD:(((a.put (some 30) (a.eval (.tmp 0))).put (some 31) ((a.put (some 30) (a.eval (.tmp 0))).eval (.tmp 4)))).defers=a.defers:=rfl;have eS:(((a.put (some 30) (a.eval (.tmp 0))).put (some 31) ((a.put (some 30) (a.eval (.tmp 0))).eval (.tmp 4)))).tmps.size=35:=by
  show ((a.tmps.setIfInBounds _ _).setIfInBounds _ _).size=35;simp [hs]
 revert e30 e31 e45 eD eS;dsimp only;generalize (((a.put (some 30) (a.eval (.tmp 0))).put (some 31) ((a.put (some 30) (a.eval (.tmp 0))).eval (.tmp 4))))=a2;intro e30 e31 e45 eD eS;have er:Sem.run Tp (execOp a2.eval { dst:=some 32,op := .call { callee := .value (.tmp 30),args := #[.tmp 31],argTypes:=ts },type:=t2,pos:=p2,after:=f2,guard:=none }) W = .ok (.round l fn tmps assign body) W:=by
  rw [← hrun];simp only [execOp,resolve,Deferred.ofValue,e30,e31,List.map_toArray,gZ,List.map_nil,Sem.run_bind,Sem.run_pure,invoke];simp
 rw [er,Oper.uponIn_round];refine ⟨fun h=>by simp [Fen,Fence.wide] at h,hR.mono ?_⟩
 have last:∀ (b:Bool) (w3:World),(∀ a',a'.defers=a.defers→a'.tmps.size=35→(∀ i,i<30→a'.tmps.getD i undef=a.tmps.getD i undef)→a'.tmps.getD 33 undef = .bool (!b)→K a' w3)→K3 (a2.put (some 32) (.bool b)) w3:=fun b w3 hfin=>by
  refine hK3 _ _ (wpListIn_plain rfl fun K4 hK4 => ?_)
  unfold Oper.wpIn;refine ⟨fun f _=>trivial,?_⟩
  rw [Oper.semAt_plain _ _ _ (by intro c hc';cases hc')]
  have e32:(a2.put (some 32) (.bool b)).eval (.tmp 32) = .bool b:=by
   show (a2.tmps.setIfInBounds 32 _).getD 32 undef=_;simp [kQ2,eS]
  have eu:Sem.run Tp (execOp (a2.put (some 32) (.bool b)).eval { dst:=some 33,op := .unOp .not 4 (.tmp 32),type:=t3,pos:=p3,after:=f3,guard:=none }) w3 = .ok (.value (.bool !b)) w3:=by
   simp only [execOp,e32];rfl
  rw [eu];refine hK4 _ _ (wpListIn_nil (hfin _ eD ?_ (fun i hi => ?_) ?_))
  ·show ((a2.tmps.setIfInBounds _ _).setIfInBounds _ _).size=35
   simp [eS]
  ·rw [pE (fun e=>by cases e;omega),pE (fun e=>by cases e;omega)]
   exact e45 i hi
  ·show ((a2.tmps.setIfInBounds 32 _).setIfInBounds 33 _).getD 33 undef=_
   simp [kQ2,eS]
 rintro e w3 (⟨rfl,h⟩ | ⟨rfl,h⟩)
 ·exact last true w3 fun a' h1 h2 h3 h4=>hA a' w3 h h1 h2 h3 h4
 ·exact last false w3 fun a' h1 h2 h3 h4=>hB a' w3 h h1 h4
end KV
end Go.Proofs
end
section
namespace Go.Proofs
open Go.RowKit
namespace KV
structure Lp (l:Nat) (v0:Value) (n8:Int) (s:Nat) (a:Act):Prop where
 size:a.tmps.size=35
 s0:a.tmps.getD 0 undef = .func (.yield l) #[] #[]
 s1:a.tmps.getD 1 undef=v0
 s8:a.tmps.getD 8 undef = .int .i64 n8
 s9:a.tmps.getD 9 undef = .int .i64 (s:Int)
 df:a.defers=[]
abbrev cxF(F:Nat→Prop):Cx:={ ι:=fun _=>none,κ:=fun _=>0,F:=F,R:=[] }
theorem aVw{P:Program}{F:Nat→Prop}{W:World}(hF:∀ b,F b→b<W.heap.size):aR P (cxF F) [] W :=
 ⟨fun _ _ _ _ h=>by simp at h,fun _ _ _ h=>by simp at h,fun _ _ _ h=>by simp at h,fun _ _ _ _ _ h=>by simp at h,fun _ _ _ h=>by simp at h,hF,fun _ _ _ h=>by simp at h⟩
theorem aNn{C:Cx}{M:Mem}{w:World}{n:Int}{u:Value}(h:Rep C M w (.p (aB n)) u):u = .int .i64 n:=by
 cases h with
 | p _ _ h=>cases h;rfl
theorem Lp.ink{F:Nat→Prop}{l:Nat}{v0:Value}{q:List Int}{n8:Int}{s:Nat}{a:Act}{W:World}(h:Lp l v0 n8 s a)(hF:∀ b,F b→b<W.heap.size)(hr:Rep (cxF F) [] W (.rp [aF q] 0) v0):InK (cxF F) W v0 (stA l q n8 s) a W:=by
 refine ⟨⟨cxF F,aNq h.size ?_,aVw hF,Fr.refl _ _ _,?_⟩,h.s1,h.df⟩
 ·intro p hp
  simp only [jH,List.not_mem_nil,or_false] at hp
  rcases hp with rfl | rfl | rfl | rfl
  ·rw [h.s0];exact .yld l
  ·rw [h.s1];exact hr
  ·rw [h.s8];exact .p _ _ (.v _)
  ·rw [h.s9];exact .p _ _ (.v _)
 ·rw [h.df];exact .nil rfl (oT rfl)
theorem InK.lp{Cv:Cx}{V W:World}{l:Nat}{v0:Value}{n8:Int}{s:Nat}{a:Act}{st:St}(h:InK Cv V v0 st a W)(h35:st.t.length=35)(e0:st.t[0]? = some (.yld l))(e8:st.t[8]? = some (.p (aB n8)))(e9:st.t[9]? = some (.p (aB (s:Int)))):Lp l v0 n8 s a:=by
 obtain ⟨⟨C,hS,_⟩,h1,hd⟩:=h;refine ⟨hS.size.trans h35,?_,h1,aNn (hS.at e8),aNn (hS.at e9),hd⟩
 have:=hS.at e0
 revert this;generalize a.tmps.getD 0 undef=u;intro this;cases this;rfl
theorem aNo{C0 C:Cx}{V W:World}{M:Mem}(h:Fr C0 [] V C M W):V.grownBy W none :=
 ⟨h.os,h.tape,h.out,h.size,fun k hk _=>h.keep k hk (fun _ _ h=>by simp at h)⟩
theorem InK.grown{Cv:Cx}{V W:World}{v0:Value}{st:St}{a:Act}(h:InK Cv V v0 st a W):V.grownBy W none:=by
 obtain ⟨⟨C,_,_,hF,_⟩,_⟩:=h;exact aNo hF
theorem InK.kp{Cv:Cx}{V W:World}{v0:Value}{st:St}{a:Act}(h:InK Cv V v0 st a W){F:Nat→Prop}(hF:∀ b,F b→b<V.heap.size):KpG F V W :=
 ⟨h.grown.size,fun b hb=>pF h.grown b (hF b hb)⟩
theorem InK.rowH{F:Nat→Prop}{V W:World}{v0:Value}{st:St}{a:Act}{o:List Int}(h:InK (cxF F) V v0 st a W)(e4:st.t[4]? = some (.own 0))(em:st.m=[some (mO o)])(hl:o.length≤1000):bIt Tp (o,a.tmps.getD 4 undef) V W:=by
 obtain ⟨⟨C,hS,hM,hF,_⟩,_⟩:=h;refine ⟨hl,C,em ▸ hM,em ▸ hS.at e4,fun b hb => ?_⟩
 rcases hF.new 0 (mO o) b (by rw [em];rfl) rfl hb with h | ⟨i,o',h,_⟩
 ·exact h
 ·simp at h
theorem aVx{n:Nat}(h:n≤1152921504606846977):inR (n:Int):=by unfold inR;omega
theorem bIo{n:Nat}(h:n≤60):(2:Nat) ^ n≤1152921504606846976:=fT (Nat.pow_le_pow_right (by omega) h) (by decide)
theorem bAs(q:List Int)(s:Nat)(h:s<2 ^ q.length):(gL q).take (s+1)=(gL q).take s++[fC q s q.length]:=by
 rw [List.take_add_one]
 congr 1
 unfold gL;rw [jA,aRf h];rfl
theorem wO(q:List Int):(gL q).length=2 ^ q.length:=by unfold gL;simp
set_option maxHeartbeats 2000000 in
theorem bAt{F:Nat→Prop}{q:List Int}(hq:q.length≤60){l:Nat}{v0:Value}{w:World}(hF:∀ b,F b→b<w.heap.size)(hr:Rep (cxF F) [] w (.rp [aF q] 0) v0){a:Act}(ha:a.tmps.size=35)(ha0:a.tmps.getD 0 undef = .func (.yield l) #[] #[])(ha1:a.tmps.getD 1 undef=v0)(had:a.defers=[])
  {J Jx:List (List Int × Value)→World→Prop} (hJ:AbidesFrom w.heap.size J) (hJx:AbidesFrom w.heap.size Jx)
  (hY:∀ pre x W0 W1,J pre W0→W0.grownBy W1 none→bIt Tp x W0 W1→pre.length<2 ^ q.length→YieldAt (Fen none) 1 Tp l #[x.2] W1 fun e W' =>
   (e = .returned (.bool true)∧J (pre++[x]) W'∧KpG F W0 W')∨(e = .returned (.bool false)∧Jx (pre++[x]) W'))
  (h0:J [] w) {R:Ending→World→Prop} (hR:∀ W',((∃ xs:List (List Int × Value),xs.map (·.1)=gL q∧J xs W')∨(∃ pre:List (List Int × Value),pre.map (·.1) <+: gL q∧Jx pre W'))→R (.returned (.tuple #[])) W') :
  cO.wpIn (Fen none) 2 Tp (bodyPost Tp Tryz.f182 R) a w:=by
 have hpow:=bIo hq;obtain ⟨N,hN⟩:∃ N,2 ^ q.length=N:=⟨_,rfl⟩;rw [hN] at hpow
 have c0 : cO = .seq (sub cO [0]) (.block 0 (.loop (.seq (sub cO [1, 0, 0, 0]) (.seq (.cond (.tmp 10) .skip (.exit 0)) (.seq (.block 1 (.seq (sub cO [1, 0, 0, 1, 1, 0, 0, 0]) (.seq (sub cO [1, 0, 0, 1, 1, 0, 0, 1, 0]) (.seq (.seq (sub cO [1, 0, 0, 1, 1, 0, 0, 1, 1, 0, 0]) (.block 2 (.loop (sub cO [1, 0, 0, 1, 1, 0, 0, 1, 1, 0, 1, 0, 0])))) (.seq (.region 10 #[{ dst := some 30, op := .move (.tmp 0), type := 155, pos := "outcome.go:38", after := #[], guard := none }, { dst := some 31, op := .move (.tmp 4), type := 33, pos := "outcome.go:38", after := #[], guard := none }, { dst := some 32, op := .call { callee := .value (.tmp 30), args := #[.tmp 31], argTypes := #[33] }, type := 4, pos := "outcome.go:38", after := #[{ on := 0, ground := .data }, { on := 1, ground := .data }], guard := none }, { dst := some 33, op := .unOp .not 4 (.tmp 32), type := 4, pos := "outcome.go:38", after := #[{ on := 2, ground := .data }], guard := none }] false) (.cond (.tmp 33) .ret .skip)))))) (sub cO [1, 0, 0, 1, 1, 1])))))) := by kernel_rfl
 rw [c0];have hsame:∀ {W'},KpG F w W'→Rep (cxF F) [] W' (.rp [aF q] 0) v0:=fun hk=>by
  cases hr with
  | rp _ _ b o us h1 h2 h3 =>
   exact .rp _ _ b o us (fun i hi=>⟨(h1 i hi).1,(eN (hk.same b (h1 i hi).1) _).trans (h1 i hi).2⟩) (fun i hi=>(h2 i hi).mono (fun _ h=>h) hk.same) h3
 have hFw:∀ {W'},KpG F w W'→∀ b,F b→b<W'.heap.size:=fun hk b hb=>kQ8 (hF b hb) hk.size
 have n8e:(1:Int)*2 ^ ((q.length:Int).toNat)=(N:Int):=by
  rw [bHq,Int.one_mul,← hN];push_cast;rfl
 have hI0:InK (cxF F) w v0 ⟨fr 35 [(0,.yld l),(1,.rp [aF q] 0)],[]⟩ a w:=by
  refine ⟨⟨cxF F,aNq ha ?_,aVw hF,Fr.refl _ _ _,by rw [had];exact .nil rfl (oT rfl)⟩,ha1,had⟩
  intro p hp;simp only [jH,List.not_mem_nil,or_false] at hp
  rcases hp with rfl | rfl
  ·rw [ha0];exact .yld l
  ·rw [ha1];exact hr
 refine wpIn_seq ?_;refine InK.step (bNv (l:=l) (q:=q) ⟨by omega,by omega,rfl⟩ (by rw [n8e];exact aVx (by omega))) (by kernel_rfl) hI0 fun a1 w1 h1 => ?_
 rw [n8e] at h1
 refine wpIn_block ?_;refine wpIn_loop_ghost (fun k a W=>∃ s,s≤N∧k=N-s∧Lp l v0 (N:Int) s a∧KpG F w W∧∃ pre:List (List Int × Value),pre.map (·.1)=(gL q).take s∧J pre W) (N)
  ⟨0,by omega,by omega,h1.lp (s:=0) (by rfl) (by rfl) (by rfl) (by rfl),h1.kp hF,[],by simp,hJ [] w w1 none h0 h1.grown (fun r e=>by cases e)⟩ ?_
 rintro k a W ⟨s,hs,rfl,hL,hK,pre,hpre,hJp⟩;have hI:=hL.ink (hFw hK) (hsame hK);have grow:∀ {W0 W':World} {ys},KpG F w W0→J ys W0→W0.grownBy W' none→J ys W':=fun hk hj hg=>hJ _ _ _ none hj hg (fun r e=>by cases e)
 refine wpIn_seq ?_;refine InK.step bNw (by kernel_rfl) hI fun a2 w2 h2 => ?_
 have hc10:a2.eval (.tmp 10) = .bool (decide ((s:Int)<(N:Int))):=by
  obtain ⟨⟨C2,hS2,_⟩,_⟩:=id h2;have:=vC hS2 10 (by omega)
  show a2.tmps.getD 10 undef=_;revert this;generalize a2.tmps.getD 10 undef=u;intro this;have h3:Rep C2 _ w2 (.p (.v (.bool (decide ((s:Int)<(N:Int)))))) u:=this;cases h3 with
  | p _ _ h=>cases h;rfl
 refine wpIn_seq ?_
 by_cases hlt:s<N
 ·refine wpIn_cond_true (by rw [hc10,decide_eq_true (by omega)]) (wpIn_skip ?_)
  show Code.wpIn _ _ _ _ _ _ _;have h2':InK (cxF F) W v0 (stA l q (N:Int) s) a2 w2:=⟨(eQ (g:=⟨[10],[],[],[]⟩) (k:=0) (dM _) (by kernel_rfl) h2.1),h2.2⟩
  refine wpIn_seq ?_;refine wpIn_block ?_;refine wpIn_seq ?_;refine InK.step bNx (by kernel_rfl) h2' fun a3 w3 h3 => ?_
  refine wpIn_seq ?_;refine InK.step bNy (by kernel_rfl) h3 fun a4 w4 h4 => ?_
  refine wpIn_seq ?_;refine wpIn_seq ?_;refine InK.step bNz (by kernel_rfl) h4 fun a5 w5 h5 => ?_
  refine bIp hq (by omega) h5 fun a6 w6 h6 => ?_
  refine wpIn_seq ?_;have hL6:Lp l v0 (N:Int) s a6:=h6.lp (s:=s) (by rfl) (by rfl) (by rfl) (by rfl)
  have hpl:pre.length=s:=by
   have:=congrArg List.length hpre;rw [eR,mY,wO,hN] at this
   omega
  have hrow:bIt Tp (fC q s q.length,a6.tmps.getD 4 undef) W w6:=h6.rowH (by rfl) (by rfl) (fT (aNr q s q.length) (by omega))
  have hmap:(pre++[(fC q s q.length,a6.tmps.getD 4 undef)]).map (·.1)=(gL q).take (s+1):=by
   rw [bAs q s (hN ▸ hlt),gJ,hpre];rfl
  refine aJr hL6.size hL6.s0 rfl (hY pre _ W w6 hJp h6.grown hrow (by omega)) (A:=fun W'=>J (pre++[(fC q s q.length,a6.tmps.getD 4 undef)]) W'∧KpG F W W') (B:=fun W'=>Jx (pre++[(fC q s q.length,a6.tmps.getD 4 undef)]) W') ?_ ?_
  ·rintro a7 w7 ⟨hj7,hk7⟩ hd7 hs7 hl7 h33
   refine wpIn_cond_false h33 (wpIn_skip ?_);show Code.wpIn _ _ _ _ _ _ _;have hL7:Lp l v0 (N:Int) s a7:=⟨hs7,(hl7 0 (by omega)).trans hL6.s0,(hl7 1 (by omega)).trans hL6.s1,(hl7 8 (by omega)).trans hL6.s8,(hl7 9 (by omega)).trans hL6.s9,hd7.trans hL6.df⟩
   have hK7:=hK.trans hk7;refine InK.step (bOf (aVx (by omega))) (by kernel_rfl) (hL7.ink (hFw hK7) (hsame hK7)) fun a8 w8 h8 => ?_
   exact ⟨N-(s+1),by omega,s+1,by omega,rfl,h8.lp (by rfl) (by rfl) (by rfl) (by rfl),hK7.trans (h8.kp (hFw hK7)),_,hmap,grow hK7 hj7 h8.grown⟩
  ·rintro a7 w7 hj7 hd7 h33
   refine wpIn_cond_true h33 (wpIn_ret ?_);exact bodyPost_ret (results_none rfl _ _ _) (hd7.trans hL6.df) (hR _ (.inr ⟨_,by rw [hmap];exact List.take_prefix _ _,hj7⟩))
 ·have hsN:s=N:=by omega
  subst hsN;refine wpIn_cond_false (by rw [hc10,decide_eq_false (by omega)]) (wpIn_exit ?_)
  have hL2:Lp l v0 (s:Int) s a2:=h2.lp (by rfl) (by rfl) (by rfl) (by rfl)
  show Exit.inBlock 0 (bodyPost Tp Tryz.f182 R) (.exit 0) a2 w2;unfold Exit.inBlock;dsimp only;rw [if_pos rfl];refine ⟨hL2.df,_,results_none rfl _ _ _,hR _ (.inl ⟨pre,?_,grow hK hJp h2.grown⟩)⟩;rw [hpre,← hN,← wO,List.take_length]
theorem cAs{C:Cx}{M:Mem}{w:World}{cs:List PV}{k:Nat}{u:Value}(h:Rep C M w (.rp cs k) u):Rep (cxF C.F) [] w (.rp cs k) u:=by
 cases h with
 | rp _ _ b o us h1 h2 h3=>exact .rp _ _ b o us h1 h2 h3
theorem cAt{F:Nat→Prop}{w W:World}{cs:List PV}{k:Nat}{u:Value}(h:Rep (cxF F) [] w (.rp cs k) u)(hk:KpG F w W):Rep (cxF F) [] W (.rp cs k) u:=by
 cases h with
 | rp _ _ b o us h1 h2 h3=>exact .rp _ _ b o us (fun i hi=>⟨(h1 i hi).1,(eN (hk.same b (h1 i hi).1) _).trans (h1 i hi).2⟩) (fun i hi=>(h2 i hi).mono (fun _ h=>h) hk.same) h3
theorem bAu(y v0:Value)(k:Nat):(#[y] ++ #[v0]++Array.replicate k undef).size=2+k∧(#[y] ++ #[v0]++Array.replicate k undef).getD 0 undef=y∧(#[y] ++ #[v0]++Array.replicate k undef).getD 1 undef=v0:=by
 refine ⟨by simp,?_,?_⟩ <;> simp [kQ2,Array.getElem?_append]
theorem aHj(q:List Int)(hq:q.length≤60):bSn Tp (.fn 182 [] [.rp [aF q] 0]) 182 (2 ^ q.length) (gL q):=fun C M w u hu0 hFs=>by
 cases hu0 with
 | fn _ _ _ us vs h1 h2 h3 h4 =>
  obtain rfl:us = #[]:=by simpa using h1
  have q0:=h4 0 (by simp)
  simp only [List.getElem_cons_zero] at q0
  obtain ⟨v0,rfl⟩:∃ v0,vs = #[v0]:=by
   have:vs.toList.length=1:=by simpa using h2
   match hv:vs.toList,this with
   | [x0],_=>exact ⟨x0,by rw [← hv]⟩
  change Rep C M w (.rp [aF q] 0) v0 at q0
  have hr:=cAs q0;refine ⟨#[v0],rfl,fun l J Jx W hW hJ hJx hY h0 => ?_⟩
  have hk:KpG C.F w W:=⟨hW.size,fun b hb=>hW.block b (hFs b hb)⟩
  have hr':=cAt hr hk;refine callsIn_of_wp Tryz.func182 rfl trivial ?_ rfl;obtain ⟨k1,k2,k3⟩:=bAu (.func (.yield l) #[] #[]) v0 (Tryz.f182.ntmps-(#[Value.func (.yield l) #[] #[]] ++ #[v0]).size);exact bAt hq (fun b hb=>kQ8 (hFs b hb) hW.size) hr' (a:={ tmps := #[.func (.yield l) #[] #[]] ++ #[v0]++Array.replicate (Tryz.f182.ntmps-(#[Value.func (.yield l) #[] #[]] ++ #[v0]).size) undef,defers:=[] }) k1 k2 k3 rfl hJ hJx hY h0 fun W' h=>⟨⟨_,rfl⟩,h⟩
end KV
end Go.Proofs
end
namespace Go.Proofs
namespace KV
section
variable {r0 b101:Bool}{m n dl tm bib x100:Int}{dc sk:Lqq}{c l c' c'1:List Int}{i j i' i0 j' i'0 i'2 j'3 base:Nat}
variable {dl:Int}{sk dc:Lqq}

noncomputable abbrev oC:Code:=sub (cd Tryz.f129) [1,0,1,0,0]
noncomputable abbrev oD:Code:=sub (cd Tryz.f54) [1,1,1,0,1,0,0]
theorem bIl:((-1:Int) == (-1:Int))=true:=by first | decide | simp
theorem aRr{q:List Int}:FV Tp 132 [(.p (aF q))] base (.fn 182 [] [(.rp [(aF q)] 0)]) []:=by
 exact FV.fi Tryz.func132 [.g 3 ⟨[],[],[0],[]⟩] gn
abbrev bIm(dl:Int)(sk dc:Lqq)(x:List Int)(r:Int):Prop:=∀ base:Nat,FV Tp 128 [pG dl sk dc,.p (.agg (x.map aB))] base (pI r) []
theorem bTt{y0 y1 y2 y3 y4 y5 r6:Int}(h0:cK .i64 (atF dc.reverse) (.int .i64 n))(h1:(dS (atF dc.reverse) (.int .i64 n))=true)(h2:fU (atF dc.reverse) (.int .i64 n)=some (dcE y0 y1 y2 y3 y4 y5))(h3:bIm dl sk dc [y0,y1,y2,y3,y4,y5] r6)(er0:r0=(r6 != bib)):FV Tp 189 [(pI n),(.rp [(PV.rp (aX dl sk dc) 0)] 0),(.rp [(aB bib),(aB tm)] 0)] base (pB r0) []:=by
 subst er0;exact FV.fi Tryz.func189 [.x (PV.rp (aX dl sk dc) 0),.x (PV.rp (aX dl sk dc) 0),.x (.mp (atF dc.reverse)),bT,.x (dcE y0 y1 y2 y3 y4 y5),.c (pI r6) [],.x (aB bib)] (gr (aB bib) (gc (fk 0 (h3 _) rfl) (gc h2 (gc h1 (gc h0 (gr (.mp (atF dc.reverse)) (gr (PV.rp (aX dl sk dc) 0) (gr (PV.rp (aX dl sk dc) 0) gn))))))))
theorem bTu(er0:r0=(n == m)):FV Tp 133 [(pI n),(.rp [(aB m)] 0)] base (pB r0) []:=by
 subst er0;exact FV.fi Tryz.func133 [.x (aB m)] (gr (aB m) gn)
abbrev bIn(dl:Int)(sk dc:Lqq):PV := .rp (aX dl sk dc) 0
abbrev aRs(dl:Int)(sk dc:Lqq)(bib tm n:Int)(b:Bool):Prop:=∀ base:Nat,FV Tp 189 [.p (aB n),.rp [bIn dl sk dc] 0,.rp [aB bib,aB tm] 0] base (pB b) []
theorem aJq(n m:Int){base:Nat}:FV Tp 133 [.p (aB n),.rp [aB m] 0] base (pB (n == m)) []:=bTu rfl
def iD(l:List Int)(dl:Int)(sk:Lqq)(dc:Lqq)(bib:Int)(tm:Int)(i:Nat):St:=⟨fr 19 [(0,(.own 0)),(1,(.fn 189 [] [(.rp [(PV.rp (aX dl sk dc) 0)] 0),(.rp [(aB bib),(aB tm)] 0)])),(7,(pI (l.length:Int))),(8,(pI (i:Int)))],[some (.row 3 l.length (l.map aB))]⟩
theorem bNo(hl0:aH Tp 1 oC (iD l dl sk dc bib tm 0) (.exit 0) (iD l dl sk dc bib tm i'0)):FMM Tp 129 [(.own 0),(.fn 189 [] [(.rp [(PV.rp (aX dl sk dc) 0)] 0),(.rp [(aB bib),(aB tm)] 0)])] [some (.row 3 l.length (l.map aB))] (pI (-1:Int)) [some (.row 3 l.length (l.map aB))]:=by
 exact FMM.fi 1 ⟨[],[],[],[]⟩ Tryz.func129 [hl0.k 6 ⟨(rng [(2,5),(9,10)]),[],[],[]⟩] (gc hl0.code gn)
theorem bNp(hl0:aH Tp 1 oC (iD l dl sk dc bib tm 0) .ret (dI (iD l dl sk dc bib tm i'0) [(4,(pI (i'0:Int)))])):FMM Tp 129 [(.own 0),(.fn 189 [] [(.rp [(PV.rp (aX dl sk dc) 0)] 0),(.rp [(aB bib),(aB tm)] 0)])] [some (.row 3 l.length (l.map aB))] (pI (i'0:Int)) [some (.row 3 l.length (l.map aB))]:=by
 exact FMM.fi 1 ⟨[],[],[],[]⟩ Tryz.func129 [hl0.k 6 ⟨(rng [(2,5),(9,10)]),[],[],[]⟩] (gc hl0.code gn)
theorem aRt(h0:(i:Int)<(l.length:Int))(h1:l[i]? = some x100)(h2:aRs dl sk dc bib tm x100 b101)(h3:b101=true):aC Tp 1 oC (iD l dl sk dc bib tm i) .ret (dI (iD l dl sk dc bib tm i) [(4,(pI (i:Int)))]):=by
 exact aC.fi ⟨(rng [(2,2),(5,2),(9,10)]),[],[],[]⟩ [bT,.x (aB x100),.c (pB b101) [],bT] (gc h3 (gc (fk 1 (h2 _) rfl) (gc (atm aB h1) (gc (cT (i:=(i:Int)) (kQ1 _) h1) (gc (aV h0) gn)))))
theorem aRu(h0:(i:Int)<(l.length:Int))(h1:l[i]? = some x100)(h2:aRs dl sk dc bib tm x100 b101)(h3:b101=false)(h4:inR (((i+1):Nat):Int))(ei':i'=(i+1)):aC Tp 1 oC (iD l dl sk dc bib tm i) .normal (iD l dl sk dc bib tm i'):=by
 subst ei';exact aC.fi ⟨(rng [(2,5),(9,10)]),[],[],[]⟩ [bT,.x (aB x100),.c (pB b101) [],bF] (gc h4 (gc h3 (gc (fk 1 (h2 _) rfl) (gc (atm aB h1) (gc (cT (i:=(i:Int)) (kQ1 _) h1) (gc (aV h0) gn))))))
theorem aRv(h0:(l.length:Int)≤(i:Int)):aC Tp 1 oC (iD l dl sk dc bib tm i) (.exit 0) (iD l dl sk dc bib tm i):=by
 exact aC.fi ⟨(rng [(2,5),(9,10)]),[],[],[]⟩ [bF] (gc (bA h0) gn)
abbrev bNq(l:List Int)(dl:Int)(sk:Lqq)(dc:Lqq)(bib:Int)(tm:Int)(i:Int):Prop:=FMM Tp 129 [.own 0,(.fn 189 [] [(.rp [(PV.rp (aX dl sk dc) 0)] 0),(.rp [(aB bib),(aB tm)] 0)])] [some (.row 3 l.length (l.map aB))] (pI i) [some (.row 3 l.length (l.map aB))]
def lV(dl:Int)(sk:Lqq)(dc:Lqq)(bib:Int)(tm:Int)(cn:Nat)(cc:List PV)(i:Nat)(j:Nat):St:=⟨fr 42 [(0,(.own 0)),(1,(.fn 189 [] [(.rp [(PV.rp (aX dl sk dc) 0)] 0),(.rp [(aB bib),(aB tm)] 0)])),(4,(.p dR)),(5,(pI (i:Int))),(6,(pI (j:Int)))],[some (.row 3 cn cc)]⟩
theorem bTv{r0c:List PV}(h0:bNq l dl sk dc bib tm (i0:Int))(h1:(i0:Int)≠(-1:Int))(h2:inR (((i0+1):Nat):Int))(hl3:aH Tp 1 oD (lV dl sk dc bib tm l.length (l.map aB) i0 (i0+1)) (.exit 0) (lV dl sk dc bib tm c'1.length (c'1.map aB) i'2 j'3))(h4:0≤(i'2:Int)∧(i'2:Int)≤(c'1.length:Int)∧(c'1.length:Int)≤(c'1.length:Int))(h5:(i'2*1)+(c'1.length-i'2)≤(c'1.map aB).length)(h6:0≤(0:Int)∧(0:Int)≤(i'2:Int)∧(i'2:Int)≤(c'1.length:Int))(er0c:r0c=((((c'1.map aB).take (i'2*1)++List.replicate (c'1.length-i'2) (PV.v (.int .i64 0))++(c'1.map aB).drop ((i'2*1)+(List.replicate (c'1.length-i'2) (PV.v (.int .i64 0))).length)).drop 0).take (i'2*(((c'1.map aB).take (i'2*1)++List.replicate (c'1.length-i'2) (PV.v (.int .i64 0))++(c'1.map aB).drop ((i'2*1)+(List.replicate (c'1.length-i'2) (PV.v (.int .i64 0))).length)).length / c'1.length)))):FMM Tp 54 [(.own 0),(.fn 189 [] [(.rp [(PV.rp (aX dl sk dc) 0)] 0),(.rp [(aB bib),(aB tm)] 0)])] [some (.row 3 l.length (l.map aB))] (.p (.sl i'2 r0c)) [some .dead]:=by
 subst er0c;have k1:=mq [0] 1 h0;exact FMM.fi 1 ⟨[],[],[0],[]⟩ Tryz.func54 [k1.o,bF,hl3.k 4 ⟨(rng [(2,2),(7,29)]),[],[],[]⟩] (gc h6 (gc h5 (gc h4 (gc hl3.code (gc h2 (gc (bJ h1) (gc k1 gn)))))))
theorem bTw(h0:bNq l dl sk dc bib tm (-1:Int)):FMM Tp 54 [(.own 0),(.fn 189 [] [(.rp [(PV.rp (aX dl sk dc) 0)] 0),(.rp [(aB bib),(aB tm)] 0)])] [some (.row 3 l.length (l.map aB))] (.p (aF l)) [some .dead]:=by
 have k1:=mq [0] 1 h0;exact FMM.fi 1 ⟨[],[],[0],[]⟩ Tryz.func54 [k1.o,bT] (gc bIl (gc k1 gn))
theorem bAm{x102:Int}(h0:(j:Int)<(c.length:Int))(h1:c[j]? = some x100)(h2:aRs dl sk dc bib tm x100 b101)(h3:b101=false)(h4:c[i]? = some x102)(h5:(i*1)<(c.map aB).length)(h6:inR (((i+1):Nat):Int))(h7:inR (((j+1):Nat):Int))(ec'n:c'.length=c.length)(ec'c:c'.map aB=((c.map aB).set (i*1) (aB x100)))(ei':i'=(i+1))(ej':j'=(j+1)):aC Tp 1 oD (lV dl sk dc bib tm c.length (c.map aB) i j) .normal (lV dl sk dc bib tm c'.length (c'.map aB) i' j'):=by
 subst ei' ej';have raw:aC Tp 1 oD (lV dl sk dc bib tm c.length (c.map aB) i j) .normal (lV dl sk dc bib tm c.length ((c.map aB).set (i*1) (aB x100)) (i+1) (j+1)):=aC.fi ⟨(rng [(2,2),(7,29)]),[],[],[]⟩ [bT,.x (aB x100),.c (pB b101) [],bT] (gc h7 (gc h6 (gc h5 (gc (cT (i:=(i:Int)) (kQ1 _) h4) (gc (bI h3) (gc (fk 1 (h2 _) rfl) (gc (atm aB h1) (gc (cT (i:=(j:Int)) (kQ1 _) h1) (gc (aV h0) gn)))))))));exact raw.cast (by rw [ec'n,ec'c])
theorem bAn(h0:(j:Int)<(c.length:Int))(h1:c[j]? = some x100)(h2:aRs dl sk dc bib tm x100 b101)(h3:b101=true)(h4:inR (((j+1):Nat):Int))(ej':j'=(j+1)):aC Tp 1 oD (lV dl sk dc bib tm c.length (c.map aB) i j) .normal (lV dl sk dc bib tm c.length (c.map aB) i j'):=by
 subst ej';exact aC.fi ⟨(rng [(2,2),(7,29)]),[],[],[]⟩ [bT,.x (aB x100),.c (pB b101) [],bF] (gc h4 (gc (aI h3) (gc (fk 1 (h2 _) rfl) (gc (atm aB h1) (gc (cT (i:=(j:Int)) (kQ1 _) h1) (gc (aV h0) gn))))))
theorem bAo(h0:(c.length:Int)≤(j:Int)):aC Tp 1 oD (lV dl sk dc bib tm c.length (c.map aB) i j) (.exit 0) (lV dl sk dc bib tm c.length (c.map aB) i j):=by
 exact aC.fi ⟨(rng [(2,2),(7,29)]),[],[],[]⟩ [bF] (gc (bA h0) gn)
def iE(l:List Int)(m:Int)(i:Nat):St:=⟨fr 19 [(0,(.own 0)),(1,(.fn 133 [] [(.rp [(aB m)] 0)])),(7,(pI (l.length:Int))),(8,(pI (i:Int)))],[some (.row 3 l.length (l.map aB))]⟩
theorem bNr(hl0:aH Tp 1 oC (iE l m 0) (.exit 0) (iE l m i'0)):FMM Tp 129 [(.own 0),(.fn 133 [] [(.rp [(aB m)] 0)])] [some (.row 3 l.length (l.map aB))] (pI (-1:Int)) [some (.row 3 l.length (l.map aB))]:=by
 exact FMM.fi 1 ⟨[],[],[],[]⟩ Tryz.func129 [hl0.k 6 ⟨(rng [(2,5),(9,10)]),[],[],[]⟩] (gc hl0.code gn)
theorem bNs(hl0:aH Tp 1 oC (iE l m 0) .ret (dI (iE l m i'0) [(4,(pI (i'0:Int)))])):FMM Tp 129 [(.own 0),(.fn 133 [] [(.rp [(aB m)] 0)])] [some (.row 3 l.length (l.map aB))] (pI (i'0:Int)) [some (.row 3 l.length (l.map aB))]:=by
 exact FMM.fi 1 ⟨[],[],[],[]⟩ Tryz.func129 [hl0.k 6 ⟨(rng [(2,5),(9,10)]),[],[],[]⟩] (gc hl0.code gn)
theorem aRw(h0:(i:Int)<(l.length:Int))(h1:l[i]? = some x100)(h2:(x100 == m)=true):aC Tp 1 oC (iE l m i) .ret (dI (iE l m i) [(4,(pI (i:Int)))]):=by
 exact aC.fi ⟨(rng [(2,2),(5,2),(9,10)]),[],[],[]⟩ [bT,.x (aB x100),.c (pB (x100 == m)) [],bT] (gc h2 (gc (fk 1 (aJq x100 m) rfl) (gc (atm aB h1) (gc (cT (i:=(i:Int)) (kQ1 _) h1) (gc (aV h0) gn)))))
theorem aRx(h0:(i:Int)<(l.length:Int))(h1:l[i]? = some x100)(h2:(x100 == m)=false)(h3:inR (((i+1):Nat):Int))(ei':i'=(i+1)):aC Tp 1 oC (iE l m i) .normal (iE l m i'):=by
 subst ei';exact aC.fi ⟨(rng [(2,5),(9,10)]),[],[],[]⟩ [bT,.x (aB x100),.c (pB (x100 == m)) [],bF] (gc h3 (gc h2 (gc (fk 1 (aJq x100 m) rfl) (gc (atm aB h1) (gc (cT (i:=(i:Int)) (kQ1 _) h1) (gc (aV h0) gn))))))
theorem aRy(h0:(l.length:Int)≤(i:Int)):aC Tp 1 oC (iE l m i) (.exit 0) (iE l m i):=by
 exact aC.fi ⟨(rng [(2,5),(9,10)]),[],[],[]⟩ [bF] (gc (bA h0) gn)
abbrev bNt(l:List Int)(m:Int)(i:Int):Prop:=FMM Tp 129 [.own 0,(.fn 133 [] [(.rp [(aB m)] 0)])] [some (.row 3 l.length (l.map aB))] (pI i) [some (.row 3 l.length (l.map aB))]
def lW(m:Int)(cn:Nat)(cc:List PV)(i:Nat)(j:Nat):St:=⟨fr 42 [(0,(.own 0)),(1,(.fn 133 [] [(.rp [(aB m)] 0)])),(4,(.p dR)),(5,(pI (i:Int))),(6,(pI (j:Int)))],[some (.row 3 cn cc)]⟩
theorem bTx{r0c:List PV}(h0:bNt l m (i0:Int))(h1:(i0:Int)≠(-1:Int))(h2:inR (((i0+1):Nat):Int))(hl3:aH Tp 1 oD (lW m l.length (l.map aB) i0 (i0+1)) (.exit 0) (lW m c'1.length (c'1.map aB) i'2 j'3))(h4:0≤(i'2:Int)∧(i'2:Int)≤(c'1.length:Int)∧(c'1.length:Int)≤(c'1.length:Int))(h5:(i'2*1)+(c'1.length-i'2)≤(c'1.map aB).length)(h6:0≤(0:Int)∧(0:Int)≤(i'2:Int)∧(i'2:Int)≤(c'1.length:Int))(er0c:r0c=((((c'1.map aB).take (i'2*1)++List.replicate (c'1.length-i'2) (PV.v (.int .i64 0))++(c'1.map aB).drop ((i'2*1)+(List.replicate (c'1.length-i'2) (PV.v (.int .i64 0))).length)).drop 0).take (i'2*(((c'1.map aB).take (i'2*1)++List.replicate (c'1.length-i'2) (PV.v (.int .i64 0))++(c'1.map aB).drop ((i'2*1)+(List.replicate (c'1.length-i'2) (PV.v (.int .i64 0))).length)).length / c'1.length)))):FMM Tp 54 [(.own 0),(.fn 133 [] [(.rp [(aB m)] 0)])] [some (.row 3 l.length (l.map aB))] (.p (.sl i'2 r0c)) [some .dead]:=by
 subst er0c;have k1:=mq [0] 1 h0;exact FMM.fi 1 ⟨[],[],[0],[]⟩ Tryz.func54 [k1.o,bF,hl3.k 4 ⟨(rng [(2,2),(7,29)]),[],[],[]⟩] (gc h6 (gc h5 (gc h4 (gc hl3.code (gc h2 (gc (bJ h1) (gc k1 gn)))))))
theorem bTy(h0:bNt l m (-1:Int)):FMM Tp 54 [(.own 0),(.fn 133 [] [(.rp [(aB m)] 0)])] [some (.row 3 l.length (l.map aB))] (.p (aF l)) [some .dead]:=by
 have k1:=mq [0] 1 h0;exact FMM.fi 1 ⟨[],[],[0],[]⟩ Tryz.func54 [k1.o,bT] (gc bIl (gc k1 gn))
theorem bAp{x101:Int}(h0:(j:Int)<(c.length:Int))(h1:c[j]? = some x100)(h2:(x100 == m)=false)(h3:c[i]? = some x101)(h4:(i*1)<(c.map aB).length)(h5:inR (((i+1):Nat):Int))(h6:inR (((j+1):Nat):Int))(ec'n:c'.length=c.length)(ec'c:c'.map aB=((c.map aB).set (i*1) (aB x100)))(ei':i'=(i+1))(ej':j'=(j+1)):aC Tp 1 oD (lW m c.length (c.map aB) i j) .normal (lW m c'.length (c'.map aB) i' j'):=by
 subst ei' ej';have raw:aC Tp 1 oD (lW m c.length (c.map aB) i j) .normal (lW m c.length ((c.map aB).set (i*1) (aB x100)) (i+1) (j+1)):=aC.fi ⟨(rng [(2,2),(7,29)]),[],[],[]⟩ [bT,.x (aB x100),.c (pB (x100 == m)) [],bT] (gc h6 (gc h5 (gc h4 (gc (cT (i:=(i:Int)) (kQ1 _) h3) (gc (bI h2) (gc (fk 1 (aJq x100 m) rfl) (gc (atm aB h1) (gc (cT (i:=(j:Int)) (kQ1 _) h1) (gc (aV h0) gn)))))))));exact raw.cast (by rw [ec'n,ec'c])
theorem bAq(h0:(j:Int)<(c.length:Int))(h1:c[j]? = some x100)(h2:(x100 == m)=true)(h3:inR (((j+1):Nat):Int))(ej':j'=(j+1)):aC Tp 1 oD (lW m c.length (c.map aB) i j) .normal (lW m c.length (c.map aB) i j'):=by
 subst ej';exact aC.fi ⟨(rng [(2,2),(7,29)]),[],[],[]⟩ [bT,.x (aB x100),.c (pB (x100 == m)) [],bF] (gc h3 (gc (aI h2) (gc (fk 1 (aJq x100 m) rfl) (gc (atm aB h1) (gc (cT (i:=(j:Int)) (kQ1 _) h1) (gc (aV h0) gn))))))
theorem bAr(h0:(c.length:Int)≤(j:Int)):aC Tp 1 oD (lW m c.length (c.map aB) i j) (.exit 0) (lW m c.length (c.map aB) i j):=by
 exact aC.fi ⟨(rng [(2,2),(7,29)]),[],[],[]⟩ [bF] (gc (bA h0) gn)
end
section
structure aAn (p:Int→Bool) (l:List Int) (j:Nat) (x:List Int × Nat):Prop where
 len:x.1.length=l.length
 le:x.2<j
 kept:x.1.take x.2=(l.take j).filter fun n => !p n
 rest:x.1.drop j=l.drop j
theorem aAn.skip{p:Int→Bool}{l:List Int}{j:Nat}{x:List Int × Nat}(h:aAn p l j x)(hj:j<l.length){n:Int}(hn:x.1[j]? = some n)(hp:p n=true):aAn p l (j+1) x:=by
 have hl:l[j]? = some n:=by
  have:=congrArg (·[0]?) h.rest
  simp only [List.getElem?_drop,Nat.add_zero] at this
  rw [← this];exact hn
 refine ⟨h.len,by have:=h.le;omega,?_,?_⟩
 ·rw [h.kept,List.take_add_one,hl]
  simp [lR,hp]
 ·rw [← List.drop_drop,h.rest,List.drop_drop]
theorem aAn.keep{p:Int→Bool}{l:List Int}{j:Nat}{x:List Int × Nat}(h:aAn p l j x)(hj:j<l.length){n:Int}(hn:x.1[j]? = some n)(hp:p n=false):aAn p l (j+1) (x.1.set x.2 n,x.2+1):=by
 have hl:l[j]? = some n:=by
  have:=congrArg (·[0]?) h.rest
  simp only [List.getElem?_drop,Nat.add_zero] at this
  rw [← this];exact hn
 have hle:=h.le;have hlen:=h.len;refine ⟨by simp [h.len],by simpa using hle,?_,?_⟩
 ·show (x.1.set x.2 n).take (x.2+1)=_
  rw [List.take_add_one,List.take_set_of_le (dM _),h.kept,bHm (by omega),List.take_add_one,hl]
  simp [lR,hp]
 ·show (x.1.set x.2 n).drop (j+1)=_
  rw [List.drop_set_of_lt (by omega),← List.drop_drop,h.rest,List.drop_drop]
theorem aAn.start{p:Int→Bool}{l:List Int}{i:Nat}{n:Int}(hi:l[i]? = some n)(hp:p n=true)(hb:∀ m∈l.take i,p m=false):aAn p l (i+1) (l,i):=by
 refine ⟨rfl,Nat.lt_succ_self _,?_,rfl⟩;show l.take i=_;rw [List.take_add_one,hi];simp only [lR];rw [List.filter_eq_self.2 fun m hm=>by simp [hb m hm]]
 simp [hp]
theorem zR{p:Int→Bool}{l:List Int}{i:Nat}(h:l.findIdx? p=some i):∀ m∈l.take i,p m=false:=fun m hm=>by
 obtain ⟨hi,h1,h2⟩:=List.findIdx?_eq_some_iff_getElem.1 h;obtain ⟨j,hj,rfl⟩:=List.getElem_of_mem hm;rw [List.getElem_take];rw [mY] at hj
 have:=h2 j (by omega)
 simpa using this

theorem bNm{l:List Int}{dl:Int}{sk dc:Lqq}{bib tm:Int}(hl:l.length≤1000){p:Int→Bool}(hp:∀ n∈l,aRs dl sk dc bib tm n (p n)) :
  (∃ i n,l[i]? = some n∧l.findIdx? p=some i∧p n=true∧bNq l dl sk dc bib tm (i:Int))∨(l.any p=false∧bNq l dl sk dc bib tm (-1)):=by
 rcases aH.find (P:=Tp) (k:=1) (b:=(sub (cd Tryz.f129) [1,0,1,0,0])) (fun i=>iD l dl sk dc bib tm i) (fun i _=>dI (iD l dl sk dc bib tm i) [(4,.p (aB (i:Int)))]) (iD l dl sk dc bib tm l.length) .ret (.exit 0) (by simp) (by simp) p l
  (fun i x hx hq=>aRu (by have:=bC hx;omega) hx (hp x (kQ5 hx)) hq (aO (by have:=bC hx;omega)) rfl)
  (fun i x hx hq=>aRt (by have:=bC hx;omega) hx (hp x (kQ5 hx)) hq)
  (aRv (by omega)) with ⟨i,x,h1,h2,h3,h4⟩ | ⟨h1,h2,h3⟩
 ·exact .inl ⟨i,x,h1,h2,h3,bNp h4⟩
 ·exact .inr ⟨h2,bNo h3⟩
theorem bTs{l:List Int}{dl:Int}{sk dc:Lqq}{bib tm:Int}(hl:l.length≤1000){p:Int→Bool}(hp:∀ n∈l,aRs dl sk dc bib tm n (p n)) :
  FMM Tp 54 [.own 0,.fn 189 [] [.rp [bIn dl sk dc] 0,.rp [aB bib,aB tm] 0]] [some (.row 3 l.length (l.map aB))] (.p (aF (l.filter fun n => !p n))) [some .dead]:=by
 rcases bNm hl hp with ⟨i,n,h1,h2,h3,h4⟩ | ⟨h1,h2⟩
 ·have hi:=bC h1
  obtain ⟨d,hm⟩:∃ d,i+1+d=l.length:=⟨l.length-(i+1),by omega⟩
  obtain ⟨⟨c,k⟩,hI,hL⟩:=aH.ex (P:=Tp) (k:=1) (b:=(sub (cd Tryz.f54) [1,1,1,0,1,0,0])) (e := .exit 0) (fun j (x:List Int × Nat)=>lV dl sk dc bib tm x.1.length (x.1.map aB) x.2 (i+1+j)) (fun x=>lV dl sk dc bib tm x.1.length (x.1.map aB) x.2 l.length) (fun j x=>aAn p l (i+1+j) x∧∀ n∈x.1,n∈l) (by simp) d
   (fun j x hj hx=>by
    obtain ⟨hI,hs⟩:=hx;have hlt:i+1+j<x.1.length:=by rw [hI.len];omega
    have hle:=hI.le;have hlen:=hI.len;obtain ⟨y,hy⟩:∃ y,x.1[i+1+j]? = some y:=⟨_,kQ0 hlt⟩;have hyl:=hs y (kQ5 hy);cases hq:p y with
    | true=>exact ⟨x,⟨hI.skip (by omega) hy hq,hs⟩,bAn (by omega) hy (hp y hyl) hq (aO (by omega)) rfl⟩
    | false =>
     obtain ⟨z,hz⟩:∃ z,x.1[x.2]? = some z:=⟨_,kQ0 (by omega)⟩
     refine ⟨_,⟨hI.keep (by omega) hy hq,fun n hn => ?_⟩,bAm (c:=x.1) (c':=x.1.set x.2 y) (by omega) hy (hp y hyl) hq hz (by rw [eR];omega) (aO (by omega)) (aO (by omega)) (by simp) (by rw [List.map_set,Nat.mul_one]) rfl rfl⟩
     rcases List.mem_or_eq_of_mem_set hn with h | rfl
     ·exact hs n h
     ·exact hyl)
   (fun x hx=>by
    have:=bAo (dl:=dl) (sk:=sk) (dc:=dc) (bib:=bib) (tm:=tm) (c:=x.1) (i:=x.2) (j:=l.length) (by rw [hx.1.len];omega)
    rw [show i+1+d=l.length from hm];exact this)
   (acc:=(l,i)) ⟨aAn.start h1 h3 (zR h2),fun n h=>h⟩
  obtain ⟨hI,_⟩:=hI;have hlen:=hI.len;have hle:=hI.le;have hk:=hI.kept;simp only [hm,List.take_length] at hlen hle hk
  have fin:=bTv (l:=l) (c'1:=c) (i'2:=k) (j'3:=l.length) (r0c:=(c.take k).map aB) h4 (by omega) (aO (by omega)) hL ⟨by omega,by omega,by omega⟩ (by rw [eR];omega) ⟨by omega,by omega,by omega⟩ (by
   rw [List.drop_zero,Nat.mul_one,List.length_replicate];have hL2:(((c.map aB).take k)++List.replicate (c.length-k) (PV.v (.int .i64 0))++(c.map aB).drop (k+(c.length-k))).length=c.length:=by
    simp only [kT,mY,eR,List.length_replicate,bHr];omega
   rw [hL2,Nat.div_self (by omega),Nat.mul_one,List.append_assoc,List.take_append_of_le_length (by rw [mY,eR];omega),List.take_take,Nat.min_self,List.map_take])
  rw [← hk];have e:aF (c.take k) = .sl k ((c.take k).map aB):=by
   show PV.sl (c.take k).length _=_;rw [mY,Nat.min_eq_left (by omega)]
  rw [e];exact fin
 ·have:(l.filter fun n => !p n)=l:=List.filter_eq_self.2 fun n hn=>by
   have:=List.any_eq_false.1 h1 n hn;simpa using this
  rw [this];exact bTw h2

theorem bNn{l:List Int}{m:Int}(hl:l.length≤1000){p:Int→Bool}(hp:∀ n∈l,p n=(n == m)) :
  (∃ i n,l[i]? = some n∧l.findIdx? p=some i∧p n=true∧bNt l m (i:Int))∨(l.any p=false∧bNt l m (-1)):=by
 rcases aH.find (P:=Tp) (k:=1) (b:=(sub (cd Tryz.f129) [1,0,1,0,0])) (fun i=>iE l m i) (fun i _=>dI (iE l m i) [(4,.p (aB (i:Int)))]) (iE l m l.length) .ret (.exit 0) (by simp) (by simp) p l
  (fun i x hx hq=>aRx (by have:=bC hx;omega) hx (by rw [← hp x (kQ5 hx)];exact hq) (aO (by have:=bC hx;omega)) rfl)
  (fun i x hx hq=>aRw (by have:=bC hx;omega) hx (by rw [← hp x (kQ5 hx)];exact hq))
  (aRy (by omega)) with ⟨i,x,h1,h2,h3,h4⟩ | ⟨h1,h2,h3⟩
 ·exact .inl ⟨i,x,h1,h2,h3,bNs h4⟩
 ·exact .inr ⟨h2,bNr h3⟩
theorem bIk{l:List Int}{m:Int}(hl:l.length≤1000){p:Int→Bool}(hp:∀ n∈l,p n=(n == m)) :
  FMM Tp 54 [.own 0,.fn 133 [] [.rp [aB m] 0]] [some (.row 3 l.length (l.map aB))] (.p (aF (l.filter fun n => !p n))) [some .dead]:=by
 rcases bNn hl hp with ⟨i,n,h1,h2,h3,h4⟩ | ⟨h1,h2⟩
 ·have hi:=bC h1
  obtain ⟨d,hm⟩:∃ d,i+1+d=l.length:=⟨l.length-(i+1),by omega⟩
  obtain ⟨⟨c,k⟩,hI,hL⟩:=aH.ex (P:=Tp) (k:=1) (b:=(sub (cd Tryz.f54) [1,1,1,0,1,0,0])) (e := .exit 0) (fun j (x:List Int × Nat)=>lW m x.1.length (x.1.map aB) x.2 (i+1+j)) (fun x=>lW m x.1.length (x.1.map aB) x.2 l.length) (fun j x=>aAn p l (i+1+j) x∧∀ n∈x.1,n∈l) (by simp) d
   (fun j x hj hx=>by
    obtain ⟨hI,hs⟩:=hx;have hlt:i+1+j<x.1.length:=by rw [hI.len];omega
    have hle:=hI.le;have hlen:=hI.len;obtain ⟨y,hy⟩:∃ y,x.1[i+1+j]? = some y:=⟨_,kQ0 hlt⟩;have hyl:=hs y (kQ5 hy);cases hq:p y with
    | true=>exact ⟨x,⟨hI.skip (by omega) hy hq,hs⟩,bAq (by omega) hy (by rw [← hp y hyl];exact hq) (aO (by omega)) rfl⟩
    | false =>
     obtain ⟨z,hz⟩:∃ z,x.1[x.2]? = some z:=⟨_,kQ0 (by omega)⟩
     refine ⟨_,⟨hI.keep (by omega) hy hq,fun n hn => ?_⟩,bAp (c:=x.1) (c':=x.1.set x.2 y) (by omega) hy (by rw [← hp y hyl];exact hq) hz (by rw [eR];omega) (aO (by omega)) (aO (by omega)) (by simp) (by rw [List.map_set,Nat.mul_one]) rfl rfl⟩
     rcases List.mem_or_eq_of_mem_set hn with h | rfl
     ·exact hs n h
     ·exact hyl)
   (fun x hx=>by
    have:=bAr (m:=m) (c:=x.1) (i:=x.2) (j:=l.length) (by rw [hx.1.len];omega)
    rw [show i+1+d=l.length from hm];exact this)
   (acc:=(l,i)) ⟨aAn.start h1 h3 (zR h2),fun n h=>h⟩
  obtain ⟨hI,_⟩:=hI;have hlen:=hI.len;have hle:=hI.le;have hk:=hI.kept;simp only [hm,List.take_length] at hlen hle hk
  have fin:=bTx (l:=l) (c'1:=c) (i'2:=k) (j'3:=l.length) (r0c:=(c.take k).map aB) h4 (by omega) (aO (by omega)) hL ⟨by omega,by omega,by omega⟩ (by rw [eR];omega) ⟨by omega,by omega,by omega⟩ (by
   rw [List.drop_zero,Nat.mul_one,List.length_replicate];have hL2:(((c.map aB).take k)++List.replicate (c.length-k) (PV.v (.int .i64 0))++(c.map aB).drop (k+(c.length-k))).length=c.length:=by
    simp only [kT,mY,eR,List.length_replicate,bHr];omega
   rw [hL2,Nat.div_self (by omega),Nat.mul_one,List.append_assoc,List.take_append_of_le_length (by rw [mY,eR];omega),List.take_take,Nat.min_self,List.map_take])
  rw [← hk];have e:aF (c.take k) = .sl k ((c.take k).map aB):=by
   show PV.sl (c.take k).length _=_;rw [mY,Nat.min_eq_left (by omega)]
  rw [e];exact fin
 ·have:(l.filter fun n => !p n)=l:=List.filter_eq_self.2 fun n hn=>by
   have:=List.any_eq_false.1 h1 n hn;simpa using this
  rw [this];exact bTy h2
end
section

end
section
variable {r103 r209:Bool}{c0 c1 c2 c3 c4 c5 d0 d1 d2 d3 d4 d5 ma mb mx na nb nd nu r0 r7 ta tb tt d4' m101 m104 m201 m204 m207 m210 m401 m406 r100 r200 r203 r206 r400 r405 t102 t105 t202 t205 t208 t211 t402 t407 y403 y404 c0'212 c0'215 c1'213 c1'216 c2'214 c2'217 c3'215 c3'218 c4'216 c4'219 c5'217 c5'220 d0'221 d0'224 d1'222 d1'225 d2'223 d2'226 d3'224 d3'227 d4'225 d4'228 d5'226 d5'229 ma'210 ma'213 mb'219 mb'222 na'209 na'212 nb'218 nb'221 ta'211 ta'214 tb'220 tb'223:Int}{dc sk dc' sk' sk'4:Lqq}{l:List Int}{i j i' j':Nat}

noncomputable abbrev qO:Code:=sub (cd Tryz.f16) [1,1,1,1,0,1,0,0,1,1,0,0,1,1,1,1,0]
noncomputable abbrev oO:Code:=sub (cd Tryz.f16) [1,1,1,1,0,1,0,0]
noncomputable abbrev yO:Code:=sub (cd Tryz.f16) [1,1,1,1,0,1,0,0,1,1,0,0,1,1,1,0]
noncomputable abbrev yP:Code:=sub (cd Tryz.f16) [1,1,0,1,0,0]
def iT(nd:Int)(l:List Int)(r0:Int)(i:Nat)(skn:Nat)(skc:List PV)(mx:Int)(tt:Int):St:=⟨fr 121 [(0,(.ptr 0 0)),(2,(pI nd)),(6,(.ptr 1 0)),(7,(.ptr 2 0)),(15,(pI r0)),(16,(pI (i:Int)))],[some (.box 129 [(.p (.sl l.length (l.map cM))),(pI mx),(.p (.v (.int .u32 tt)))]),some (.box 26 [(pI 0),(.p dR),(.p dR)]),some (.box 26 [(pI 30),(.own 3),(.p dR)]),some (.row 31 skn skc)]⟩
def eB(l:List Int)(sk'4:Lqq)(r7:Int)(j:Nat)(dcn:Nat)(dcc:List PV)(nu:Int)(mx:Int)(tt:Int):St:=⟨fr 121 [(0,(.ptr 0 0)),(6,(.ptr 1 0)),(7,(.ptr 2 0)),(10,(pI nu)),(40,(pI r7)),(41,(pI (j:Int)))],[some (.box 129 [(.p (.sl l.length (l.map cM))),(pI mx),(.p (.v (.int .u32 tt)))]),some (.box 26 [(pI 0),(.p dR),(.p dR)]),some (.box 26 [(pI 30),(.own 3),(.own 4)]),some (.row 31 sk'4.length (sk'4.flatten.map aB)),some (.row 44 dcn dcc)]⟩
theorem bYk{ns:Int}{nx st m1 t2:Int}{i'3:Nat}{mx'5 tt'6 m8 t9:Int}{j'10:Nat}{dc'11:Lqq}{nu'12 mx'13 tt'14:Int}(h0:0≤nx∧nx≤1000000000)(h1:(-1000000≤1∧(1:Int)≤1000000) ∧ -1000000≤ns∧ns≤1000000)(h2:oM (1:Int) ns l nx st=(r0,m1,t2))(hl3:aH Tp 1 yP (iT nd l r0 0 0 [] m1 t2) (.exit 0) (iT nd l r0 i'3 sk'4.length (sk'4.flatten.map aB) mx'5 tt'6))(h4:inR (nd+1))(h5:0≤mx'5∧mx'5≤1000000000)(h6:cI (nd+1) l mx'5 tt'6=(r7,m8,t9))(hl7:aH Tp 1 oO (eB l sk'4 r7 0 0 [] (0:Int) m8 t9) (.exit 2) (eB l sk'4 r7 j'10 dc'11.length (dc'11.flatten.map aB) nu'12 mx'13 tt'14)):FMM Tp 16 [(.ptr 0 0),(pI ns),(pI nd)] [some (.box 129 [(.p (.sl l.length (l.map cM))),(pI nx),(.p (.v (.int .u32 st)))])] (.p (.agg (cR 30 sk'4 dc'11))) [some (.box 129 [(.p (.sl l.length (l.map cM))),(pI mx'13),(.p (.v (.int .u32 tt'14)))])]:=by
 have k1:=mq [0] 3 (vI (1:Int) ns l nx st h0 h1 h2);have k2:=mq [0] 4 (eE (nd+1) l mx'5 tt'6 h5 h6);exact FMM.fi 1 ⟨[],[],[3,4],[]⟩ Tryz.func16 [k1.o,hl3.k 1 ⟨(rng [(1,1),(3,3),(8,2),(12,3),(17,20)]),[1,2,3],[],[(102001,31)]⟩,k2.o,hl7.k 1 ⟨(rng [(1,5),(8,2),(11,29),(42,78)]),[1,2,3,4],[],[(102002,44)]⟩] (gc hl7.code (gc k2 (gc h4 (gc hl3.code (gc k1 gn)))))
theorem bDt(h0:(i:Int)<r0)(h1:inR ((3:Int)*(i:Int)))(h2:inR (((3:Int)*(i:Int))+1))(h3:0≤mx∧mx≤1000000000)(h4:cI (20:Int) l mx tt=(r100,m101,t102))(h5:inR ((50:Int)*r100))(h6:inR ((15000:Int)+((50:Int)*r100)))(h7:0≤m101∧m101≤1000000000)(h8:iM (12:Int) l m101 t102=(r103,m104,t105))(h9:r103=true)(h10:[(aB (((3:Int)*(i:Int))+1)),(aB (-1:Int))].length=1*2∧sk.length+1≤1000000)(h11:inR (((i+1):Nat):Int))(ei':i'=(i+1))(esk'n:sk'.length=(sk.length+1))(esk'c:sk'.flatten.map aB=((sk.flatten.map aB)++[(aB (((3:Int)*(i:Int))+1)),(aB (-1:Int))])):aC Tp 1 yP (iT nd l r0 i sk.length (sk.flatten.map aB) mx tt) .normal (iT nd l r0 i' sk'.length (sk'.flatten.map aB) m104 t105):=by
 subst ei';have k1:=mq [0] 4 (eE (20:Int) l mx tt h3 h4);have k2:=mq [0] 5 (tH (12:Int) l m101 t102 h7 h8);have raw:aC Tp 1 yP (iT nd l r0 i sk.length (sk.flatten.map aB) mx tt) .normal (iT nd l r0 (i+1) (sk.length+1) ((sk.flatten.map aB)++[(aB (((3:Int)*(i:Int))+1)),(aB (-1:Int))]) m104 t105):=aC.fi ⟨(rng [(1,1),(3,3),(8,2),(12,3),(17,20)]),[1,2,6],[],[]⟩ [bT,k1.o,k2.o,bT] (gc h11 (gc h10 (gt ([(aB (((3:Int)*(i:Int))+1)),(aB (-1:Int))].length=2) (by first | decide | simp) (gc h9 (gc k2 (gc h6 (gc h5 (gc k1 (gc h2 (gc h1 (gc (aV h0) gn)))))))))))
 exact raw.cast (by rw [esk'n,esk'c])
theorem bDu(h0:(i:Int)<r0)(h1:inR ((3:Int)*(i:Int)))(h2:inR (((3:Int)*(i:Int))+1))(h3:0≤mx∧mx≤1000000000)(h4:cI (20:Int) l mx tt=(r100,m101,t102))(h5:inR ((50:Int)*r100))(h6:inR ((15000:Int)+((50:Int)*r100)))(h7:0≤m101∧m101≤1000000000)(h8:iM (12:Int) l m101 t102=(r103,m104,t105))(h9:r103=false)(h10:[(aB (((3:Int)*(i:Int))+1)),(aB ((15000:Int)+((50:Int)*r100)))].length=1*2∧sk.length+1≤1000000)(h11:inR (((i+1):Nat):Int))(ei':i'=(i+1))(esk'n:sk'.length=(sk.length+1))(esk'c:sk'.flatten.map aB=((sk.flatten.map aB)++[(aB (((3:Int)*(i:Int))+1)),(aB ((15000:Int)+((50:Int)*r100)))])):aC Tp 1 yP (iT nd l r0 i sk.length (sk.flatten.map aB) mx tt) .normal (iT nd l r0 i' sk'.length (sk'.flatten.map aB) m104 t105):=by
 subst ei';have k1:=mq [0] 4 (eE (20:Int) l mx tt h3 h4);have k2:=mq [0] 5 (tH (12:Int) l m101 t102 h7 h8);have raw:aC Tp 1 yP (iT nd l r0 i sk.length (sk.flatten.map aB) mx tt) .normal (iT nd l r0 (i+1) (sk.length+1) ((sk.flatten.map aB)++[(aB (((3:Int)*(i:Int))+1)),(aB ((15000:Int)+((50:Int)*r100)))]) m104 t105):=aC.fi ⟨(rng [(1,1),(3,3),(8,2),(12,3),(17,20)]),[1,2,6],[],[]⟩ [bT,k1.o,k2.o,bF] (gc h11 (gc h10 (gt ([(aB (((3:Int)*(i:Int))+1)),(aB ((15000:Int)+((50:Int)*r100)))].length=2) (by first | decide | simp) (gc h9 (gc k2 (gc h6 (gc h5 (gc k1 (gc h2 (gc h1 (gc (aV h0) gn)))))))))))
 exact raw.cast (by rw [esk'n,esk'c])
theorem bDv(h0:r0≤(i:Int)):aC Tp 1 yP (iT nd l r0 i sk.length (sk.flatten.map aB) mx tt) (.exit 0) (iT nd l r0 i sk.length (sk.flatten.map aB) mx tt):=by
 exact aC.fi ⟨(rng [(1,1),(3,3),(8,2),(12,3),(17,20)]),[1,2,3],[],[]⟩ [bF] (gc (bA h0) gn)
def iU(l:List Int)(sk'4:Lqq)(r7:Int)(j:Nat)(dc:Lqq)(na:Int)(ma:Int)(ta:Int)(c0:Int)(c1:Int)(c2:Int)(c3:Int)(c4:Int)(c5:Int):St:=⟨fr 121 [(0,(.ptr 0 0)),(6,(.ptr 1 0)),(7,(.ptr 2 0)),(10,(pI na)),(11,(.ptr 5 0)),(40,(pI r7)),(41,(pI (j:Int))),(42,(pB (decide ((j:Int)<r7))))],[some (.box 129 [(.p (.sl l.length (l.map cM))),(pI ma),(.p (.v (.int .u32 ta)))]),some (.box 26 [(pI 0),(.p dR),(.p dR)]),some (.box 26 [(pI 30),(.own 3),(.own 4)]),some (.row 31 sk'4.length (sk'4.flatten.map aB)),some (.row 44 dc.length (dc.flatten.map aB)),some (.box 44 [(pI c0),(pI c1),(pI c2),(pI c3),(pI c4),(pI c5)])]⟩
def eZ(l:List Int)(sk'4:Lqq)(r7:Int)(j:Nat)(dc:Lqq)(nb:Int)(mb:Int)(tb:Int)(d0:Int)(d1:Int)(d2:Int)(d3:Int)(d4:Int)(d5:Int):St:=⟨fr 121 [(0,(.ptr 0 0)),(6,(.ptr 1 0)),(7,(.ptr 2 0)),(10,(pI nb)),(11,(.ptr 5 0)),(40,(pI r7)),(41,(pI (j:Int))),(42,(pB (decide ((j:Int)<r7))))],[some (.box 129 [(.p (.sl l.length (l.map cM))),(pI mb),(.p (.v (.int .u32 tb)))]),some (.box 26 [(pI 0),(.p dR),(.p dR)]),some (.box 26 [(pI 30),(.own 3),(.own 4)]),some (.row 31 sk'4.length (sk'4.flatten.map aB)),some (.row 44 dc.length (dc.flatten.map aB)),some (.box 44 [(pI d0),(pI d1),(pI d2),(pI d3),(pI d4),(pI d5)])]⟩
theorem bDw(h0:(j:Int)<r7)(h1:0≤mx∧mx≤1000000000)(h2:(-1000000≤1∧(1:Int)≤1000000) ∧ -1000000≤2∧(2:Int)≤1000000)(h3:oM (1:Int) (2:Int) l mx tt=(r200,m201,t202))(h4:inR (nu+r200))(h5:0≤m201∧m201≤1000000000)(h6:cI (10:Int) l m201 t202=(r203,m204,t205))(h7:0≤m204∧m204≤1000000000)(h8:cI (36:Int) l m204 t205=(r206,m207,t208))(h9:(1:Int)<(nu+r200))(h10:r203<5)(h11:0≤m207∧m207≤1000000000)(h12:iM (3:Int) l m207 t208=(r209,m210,t211))(h13:r209=true)(hl14:aC Tp 1 yO (iU l sk'4 r7 j dc (nu+r200) m210 t211 (nu+r200) (7:Int) r206 (0:Int) (0:Int) (0:Int)) .normal (iU l sk'4 r7 j dc na'212 ma'213 ta'214 c0'215 c1'216 c2'217 c3'218 c4'219 c5'220))(hl15:aC Tp 1 qO (eZ l sk'4 r7 j dc na'212 ma'213 ta'214 c0'215 c1'216 c2'217 c3'218 c4'219 c5'220) .normal (eZ l sk'4 r7 j dc nb'221 mb'222 tb'223 d0'224 d1'225 d2'226 d3'227 d4'228 d5'229))(h16:[(aB d0'224),(aB d1'225),(aB d2'226),(aB d3'227),(aB d4'228),(aB d5'229)].length=1*6∧dc.length+1≤1000000)(h17:inR (((j+1):Nat):Int))(ej':j'=(j+1))(edc'n:dc'.length=(dc.length+1))(edc'c:dc'.flatten.map aB=((dc.flatten.map aB)++[(aB d0'224),(aB d1'225),(aB d2'226),(aB d3'227),(aB d4'228),(aB d5'229)])):aC Tp 1 oO (eB l sk'4 r7 j dc.length (dc.flatten.map aB) nu mx tt) .normal (eB l sk'4 r7 j' dc'.length (dc'.flatten.map aB) nb'221 mb'222 tb'223):=by
 subst ej';have k1:=mq [0] 5 (vI (1:Int) (2:Int) l mx tt h1 h2 h3);have k2:=mq [0] 5 (eE (10:Int) l m201 t202 h5 h6);have k3:=mq [0] 5 (eE (36:Int) l m204 t205 h7 h8);have k4:=mq [0] 6 (tH (3:Int) l m207 t208 h11 h12);have raw:aC Tp 1 oO (eB l sk'4 r7 j dc.length (dc.flatten.map aB) nu mx tt) .normal (eB l sk'4 r7 (j+1) (dc.length+1) ((dc.flatten.map aB)++[(aB d0'224),(aB d1'225),(aB d2'226),(aB d3'227),(aB d4'228),(aB d5'229)]) nb'221 mb'222 tb'223):=aC.fi ⟨(rng [(1,5),(8,2),(11,29),(42,78)]),[1,2,3,7],[],[]⟩ [bT,k1.o,k2.o,k3.o,bT,bT,bT,bT,bT,bT,k4.o,bT,bT,hl14.k 2 ⟨(rng [(1,5),(8,2),(12,28),(43,77)]),[1,2,3,4,5],[],[]⟩,hl15.k 1 ⟨(rng [(1,5),(8,2),(12,28),(43,77)]),[1,2,3,4,5],[],[]⟩] (gc h17 (gc h16 (gt ([(aB d0'224),(aB d1'225),(aB d2'226),(aB d3'227),(aB d4'228),(aB d5'229)].length=6) (by first | decide | simp) (gc hl15 (gc hl14 (gc h13 (gc (aV h10) (gc k4 (g2c (aV h10) (g4c (aV h9) (gc k3 (gc k2 (gc h4 (gc k1 (gc (aV h0) gn)))))))))))))))
 exact raw.cast (by rw [edc'n,edc'c])
theorem bDx(h0:(j:Int)<r7)(h1:0≤mx∧mx≤1000000000)(h2:(-1000000≤1∧(1:Int)≤1000000) ∧ -1000000≤2∧(2:Int)≤1000000)(h3:oM (1:Int) (2:Int) l mx tt=(r200,m201,t202))(h4:inR (nu+r200))(h5:0≤m201∧m201≤1000000000)(h6:cI (10:Int) l m201 t202=(r203,m204,t205))(h7:0≤m204∧m204≤1000000000)(h8:cI (36:Int) l m204 t205=(r206,m207,t208))(h9:(1:Int)<(nu+r200))(h10:r203<5)(h11:0≤m207∧m207≤1000000000)(h12:iM (3:Int) l m207 t208=(r209,m210,t211))(h13:r209=false)(hl14:aC Tp 1 yO (iU l sk'4 r7 j dc (nu+r200) m210 t211 (nu+r200) r203 r206 (0:Int) (0:Int) (0:Int)) .normal (iU l sk'4 r7 j dc na'212 ma'213 ta'214 c0'215 c1'216 c2'217 c3'218 c4'219 c5'220))(hl15:aC Tp 1 qO (eZ l sk'4 r7 j dc na'212 ma'213 ta'214 c0'215 c1'216 c2'217 c3'218 c4'219 c5'220) .normal (eZ l sk'4 r7 j dc nb'221 mb'222 tb'223 d0'224 d1'225 d2'226 d3'227 d4'228 d5'229))(h16:[(aB d0'224),(aB d1'225),(aB d2'226),(aB d3'227),(aB d4'228),(aB d5'229)].length=1*6∧dc.length+1≤1000000)(h17:inR (((j+1):Nat):Int))(ej':j'=(j+1))(edc'n:dc'.length=(dc.length+1))(edc'c:dc'.flatten.map aB=((dc.flatten.map aB)++[(aB d0'224),(aB d1'225),(aB d2'226),(aB d3'227),(aB d4'228),(aB d5'229)])):aC Tp 1 oO (eB l sk'4 r7 j dc.length (dc.flatten.map aB) nu mx tt) .normal (eB l sk'4 r7 j' dc'.length (dc'.flatten.map aB) nb'221 mb'222 tb'223):=by
 subst ej';have k1:=mq [0] 5 (vI (1:Int) (2:Int) l mx tt h1 h2 h3);have k2:=mq [0] 5 (eE (10:Int) l m201 t202 h5 h6);have k3:=mq [0] 5 (eE (36:Int) l m204 t205 h7 h8);have k4:=mq [0] 6 (tH (3:Int) l m207 t208 h11 h12);have raw:aC Tp 1 oO (eB l sk'4 r7 j dc.length (dc.flatten.map aB) nu mx tt) .normal (eB l sk'4 r7 (j+1) (dc.length+1) ((dc.flatten.map aB)++[(aB d0'224),(aB d1'225),(aB d2'226),(aB d3'227),(aB d4'228),(aB d5'229)]) nb'221 mb'222 tb'223):=aC.fi ⟨(rng [(1,5),(8,2),(11,29),(42,78)]),[1,2,3,7],[],[]⟩ [bT,k1.o,k2.o,k3.o,bT,bT,bT,bT,bT,bT,k4.o,bT,bF,hl14.k 1 ⟨(rng [(1,5),(8,2),(12,28),(43,77)]),[1,2,3,4,5],[],[]⟩,hl15.k 1 ⟨(rng [(1,5),(8,2),(12,28),(43,77)]),[1,2,3,4,5],[],[]⟩] (gc h17 (gc h16 (gt ([(aB d0'224),(aB d1'225),(aB d2'226),(aB d3'227),(aB d4'228),(aB d5'229)].length=6) (by first | decide | simp) (gc hl15 (gc hl14 (gc h13 (gc (aV h10) (gc k4 (g2c (aV h10) (g4c (aV h9) (gc k3 (gc k2 (gc h4 (gc k1 (gc (aV h0) gn)))))))))))))))
 exact raw.cast (by rw [edc'n,edc'c])
theorem bDy(h0:(j:Int)<r7)(h1:0≤mx∧mx≤1000000000)(h2:(-1000000≤1∧(1:Int)≤1000000) ∧ -1000000≤2∧(2:Int)≤1000000)(h3:oM (1:Int) (2:Int) l mx tt=(r200,m201,t202))(h4:inR (nu+r200))(h5:0≤m201∧m201≤1000000000)(h6:cI (10:Int) l m201 t202=(r203,m204,t205))(h7:0≤m204∧m204≤1000000000)(h8:cI (36:Int) l m204 t205=(r206,m207,t208))(h9:(1:Int)<(nu+r200))(h10:(5:Int)≤r203)(hl11:aC Tp 1 yO (iU l sk'4 r7 j dc (nu+r200) m207 t208 (nu+r200) r203 r206 (0:Int) (0:Int) (0:Int)) .normal (iU l sk'4 r7 j dc na'209 ma'210 ta'211 c0'212 c1'213 c2'214 c3'215 c4'216 c5'217))(hl12:aC Tp 1 qO (eZ l sk'4 r7 j dc na'209 ma'210 ta'211 c0'212 c1'213 c2'214 c3'215 c4'216 c5'217) .normal (eZ l sk'4 r7 j dc nb'218 mb'219 tb'220 d0'221 d1'222 d2'223 d3'224 d4'225 d5'226))(h13:[(aB d0'221),(aB d1'222),(aB d2'223),(aB d3'224),(aB d4'225),(aB d5'226)].length=1*6∧dc.length+1≤1000000)(h14:inR (((j+1):Nat):Int))(ej':j'=(j+1))(edc'n:dc'.length=(dc.length+1))(edc'c:dc'.flatten.map aB=((dc.flatten.map aB)++[(aB d0'221),(aB d1'222),(aB d2'223),(aB d3'224),(aB d4'225),(aB d5'226)])):aC Tp 1 oO (eB l sk'4 r7 j dc.length (dc.flatten.map aB) nu mx tt) .normal (eB l sk'4 r7 j' dc'.length (dc'.flatten.map aB) nb'218 mb'219 tb'220):=by
 subst ej';have k1:=mq [0] 5 (vI (1:Int) (2:Int) l mx tt h1 h2 h3);have k2:=mq [0] 5 (eE (10:Int) l m201 t202 h5 h6);have k3:=mq [0] 5 (eE (36:Int) l m204 t205 h7 h8);have raw:aC Tp 1 oO (eB l sk'4 r7 j dc.length (dc.flatten.map aB) nu mx tt) .normal (eB l sk'4 r7 (j+1) (dc.length+1) ((dc.flatten.map aB)++[(aB d0'221),(aB d1'222),(aB d2'223),(aB d3'224),(aB d4'225),(aB d5'226)]) nb'218 mb'219 tb'220):=aC.fi ⟨(rng [(1,5),(8,2),(11,29),(42,78)]),[1,2,3,7],[],[]⟩ [bT,k1.o,k2.o,k3.o,bT,bT,bT,bT,bF,bF,bF,hl11.k 2 ⟨(rng [(1,5),(8,2),(12,28),(43,77)]),[1,2,3,4,5],[],[]⟩,hl12.k 1 ⟨(rng [(1,5),(8,2),(12,28),(43,77)]),[1,2,3,4,5],[],[]⟩] (gc h14 (gc h13 (gt ([(aB d0'221),(aB d1'222),(aB d2'223),(aB d3'224),(aB d4'225),(aB d5'226)].length=6) (by first | decide | simp) (gc hl12 (gc hl11 (g3c (bA h10) (g4c (aV h9) (gc k3 (gc k2 (gc h4 (gc k1 (gc (aV h0) gn))))))))))))
 exact raw.cast (by rw [edc'n,edc'c])
theorem bDz(h0:(j:Int)<r7)(h1:0≤mx∧mx≤1000000000)(h2:(-1000000≤1∧(1:Int)≤1000000) ∧ -1000000≤2∧(2:Int)≤1000000)(h3:oM (1:Int) (2:Int) l mx tt=(r200,m201,t202))(h4:inR (nu+r200))(h5:0≤m201∧m201≤1000000000)(h6:cI (10:Int) l m201 t202=(r203,m204,t205))(h7:0≤m204∧m204≤1000000000)(h8:cI (36:Int) l m204 t205=(r206,m207,t208))(h9:(nu+r200)≤1)(hl10:aC Tp 1 yO (iU l sk'4 r7 j dc (nu+r200) m207 t208 (nu+r200) r203 r206 (0:Int) (0:Int) (0:Int)) .normal (iU l sk'4 r7 j dc na'209 ma'210 ta'211 c0'212 c1'213 c2'214 c3'215 c4'216 c5'217))(hl11:aC Tp 1 qO (eZ l sk'4 r7 j dc na'209 ma'210 ta'211 c0'212 c1'213 c2'214 c3'215 c4'216 c5'217) .normal (eZ l sk'4 r7 j dc nb'218 mb'219 tb'220 d0'221 d1'222 d2'223 d3'224 d4'225 d5'226))(h12:[(aB d0'221),(aB d1'222),(aB d2'223),(aB d3'224),(aB d4'225),(aB d5'226)].length=1*6∧dc.length+1≤1000000)(h13:inR (((j+1):Nat):Int))(ej':j'=(j+1))(edc'n:dc'.length=(dc.length+1))(edc'c:dc'.flatten.map aB=((dc.flatten.map aB)++[(aB d0'221),(aB d1'222),(aB d2'223),(aB d3'224),(aB d4'225),(aB d5'226)])):aC Tp 1 oO (eB l sk'4 r7 j dc.length (dc.flatten.map aB) nu mx tt) .normal (eB l sk'4 r7 j' dc'.length (dc'.flatten.map aB) nb'218 mb'219 tb'220):=by
 subst ej';have k1:=mq [0] 5 (vI (1:Int) (2:Int) l mx tt h1 h2 h3);have k2:=mq [0] 5 (eE (10:Int) l m201 t202 h5 h6);have k3:=mq [0] 5 (eE (36:Int) l m204 t205 h7 h8);have raw:aC Tp 1 oO (eB l sk'4 r7 j dc.length (dc.flatten.map aB) nu mx tt) .normal (eB l sk'4 r7 (j+1) (dc.length+1) ((dc.flatten.map aB)++[(aB d0'221),(aB d1'222),(aB d2'223),(aB d3'224),(aB d4'225),(aB d5'226)]) nb'218 mb'219 tb'220):=aC.fi ⟨(rng [(1,5),(8,2),(11,29),(42,78)]),[1,2,3,7],[],[]⟩ [bT,k1.o,k2.o,k3.o,bF,bF,bF,bF,hl10.k 2 ⟨(rng [(1,5),(8,2),(12,28),(43,77)]),[1,2,3,4,5],[],[]⟩,hl11.k 1 ⟨(rng [(1,5),(8,2),(12,28),(43,77)]),[1,2,3,4,5],[],[]⟩] (gc h13 (gc h12 (gt ([(aB d0'221),(aB d1'222),(aB d2'223),(aB d3'224),(aB d4'225),(aB d5'226)].length=6) (by first | decide | simp) (gc hl11 (gc hl10 (g4c (bA h9) (gc k3 (gc k2 (gc h4 (gc k1 (gc (aV h0) gn)))))))))))
 exact raw.cast (by rw [edc'n,edc'c])
theorem bEa(h0:r7≤(j:Int)):aC Tp 1 oO (eB l sk'4 r7 j dc.length (dc.flatten.map aB) nu mx tt) (.exit 2) (eB l sk'4 r7 j dc.length (dc.flatten.map aB) nu mx tt):=by
 exact aC.fi ⟨(rng [(1,5),(8,2),(11,29),(42,78)]),[1,2,3,4],[],[]⟩ [bF] (gc (bA h0) gn)
theorem bEb{r300 m301 t302:Int}(h0:na=1)(h1:0≤ma∧ma≤1000000000)(h2:cI (5:Int) l ma ta=(r300,m301,t302)):aC Tp 1 yO (iU l sk'4 r7 j dc na ma ta c0 c1 c2 c3 c4 c5) .normal (iU l sk'4 r7 j dc na m301 t302 c0 r300 c2 c3 c4 c5):=by
 have k1:=mq [0] 6 (eE (5:Int) l ma ta h1 h2);exact aC.fi ⟨(rng [(1,5),(8,2),(12,28),(43,77)]),[1,2,3,4,5],[],[]⟩ [bT,k1.o] (gc k1 (gc (dX h0) gn))
theorem bEc(h0:na≠1):aC Tp 1 yO (iU l sk'4 r7 j dc na ma ta c0 c1 c2 c3 c4 c5) .normal (iU l sk'4 r7 j dc na ma ta c0 c1 c2 c3 c4 c5):=by
 exact aC.fi ⟨(rng [(1,5),(8,2),(12,28),(43,77)]),[1,2,3,4,5],[],[]⟩ [bF] (gc (bJ h0) gn)
theorem bEd{r408 m409 t410:Int}(h0:d1≤4)(h1:0≤mb∧mb≤1000000000)(h2:cI (sk'4.length:Int) l mb tb=(r400,m401,t402))(h3:sk'4[r400.toNat]? = some [y403,y404])(h4:0≤r400)(h5:uni 2 sk'4)(h6:0≤m401∧m401≤1000000000)(h7:cI (8:Int) l m401 t402=(r405,m406,t407))(h8:inR ((50:Int)*r405))(h9:d1=2)(h10:0≤m406∧m406≤1000000000)(h11:cI (3:Int) l m406 t407=(r408,m409,t410))(h12:d1≠3):aC Tp 1 qO (eZ l sk'4 r7 j dc nb mb tb d0 d1 d2 d3 d4 d5) .normal (eZ l sk'4 r7 j dc nb m409 t410 d0 d1 d2 y403 r408 d5):=by
 have k1:=mq [0] 7 (eE (sk'4.length:Int) l mb tb h1 h2);have k2:=mq [0] 6 (eE (8:Int) l m401 t402 h6 h7);have k3:=mq [0] 6 (eE (3:Int) l m406 t407 h10 h11);exact aC.fi ⟨(rng [(1,5),(8,2),(12,28),(43,77)]),[1,2,3,4,5],[],[]⟩ [bT,k1.o,.x (aB y403),k2.o,bT,k3.o,bF] (gc (bJ h12) (gc k3 (gc (dX h9) (gc h8 (gc k2 (gt ((sk'4.flatten.map aB)[(r400.toNat*2)]? = some (aB y403)) (kB (i:=r400.toNat) (f:=0) h5 h3 rfl) (gc (cT (i:=r400) h4 h3) (gc k1 (gc (aAm h0) gn)))))))))
theorem bEe(h0:d1≤4)(h1:0≤mb∧mb≤1000000000)(h2:cI (sk'4.length:Int) l mb tb=(r400,m401,t402))(h3:sk'4[r400.toNat]? = some [y403,y404])(h4:0≤r400)(h5:uni 2 sk'4)(h6:0≤m401∧m401≤1000000000)(h7:cI (8:Int) l m401 t402=(r405,m406,t407))(h8:inR ((50:Int)*r405))(h9:d1≠2)(h10:d1=3)(ed4':d4'=(0:Int)):aC Tp 1 qO (eZ l sk'4 r7 j dc nb mb tb d0 d1 d2 d3 d4 d5) .normal (eZ l sk'4 r7 j dc nb m406 t407 d0 d1 d2 y403 d4' d5):=by
 subst ed4';have k1:=mq [0] 7 (eE (sk'4.length:Int) l mb tb h1 h2);have k2:=mq [0] 6 (eE (8:Int) l m401 t402 h6 h7);exact aC.fi ⟨(rng [(1,5),(8,2),(12,28),(43,77)]),[1,2,3,4,5],[],[]⟩ [bT,k1.o,.x (aB y403),k2.o,bF,bT] (gc (dX h10) (gc (bJ h9) (gc h8 (gc k2 (gt ((sk'4.flatten.map aB)[(r400.toNat*2)]? = some (aB y403)) (kB (i:=r400.toNat) (f:=0) h5 h3 rfl) (gc (cT (i:=r400) h4 h3) (gc k1 (gc (aAm h0) gn))))))))
theorem bEf(h0:d1≤4)(h1:0≤mb∧mb≤1000000000)(h2:cI (sk'4.length:Int) l mb tb=(r400,m401,t402))(h3:sk'4[r400.toNat]? = some [y403,y404])(h4:0≤r400)(h5:uni 2 sk'4)(h6:0≤m401∧m401≤1000000000)(h7:cI (8:Int) l m401 t402=(r405,m406,t407))(h8:inR ((50:Int)*r405))(h9:d1≠2)(h10:d1≠3)(ed4':d4'=((50:Int)*r405)):aC Tp 1 qO (eZ l sk'4 r7 j dc nb mb tb d0 d1 d2 d3 d4 d5) .normal (eZ l sk'4 r7 j dc nb m406 t407 d0 d1 d2 y403 d4' d5):=by
 subst ed4';have k1:=mq [0] 7 (eE (sk'4.length:Int) l mb tb h1 h2);have k2:=mq [0] 6 (eE (8:Int) l m401 t402 h6 h7);exact aC.fi ⟨(rng [(1,5),(8,2),(12,28),(43,77)]),[1,2,3,4,5],[],[]⟩ [bT,k1.o,.x (aB y403),k2.o,bF,bF] (gc (bJ h10) (gc (bJ h9) (gc h8 (gc k2 (gt ((sk'4.flatten.map aB)[(r400.toNat*2)]? = some (aB y403)) (kB (i:=r400.toNat) (f:=0) h5 h3 rfl) (gc (cT (i:=r400) h4 h3) (gc k1 (gc (aAm h0) gn))))))))
theorem bEg{r403 m404 t405:Int}(h0:(4:Int)<d1)(h1:inR (nb-6))(h2:inR (nb-1))(h3:0≤mb∧mb≤1000000000)(h4:(-1000000≤(if (nb-6) > (1:Int) then (nb-6) else (1:Int))∧(if (nb-6) > (1:Int) then (nb-6) else (1:Int))≤1000000) ∧ -1000000≤(nb-1)∧(nb-1)≤1000000)(h5:oM (if (nb-6) > (1:Int) then (nb-6) else (1:Int)) (nb-1) l mb tb=(r400,m401,t402))(h6:d1=6)(h7:0≤m401∧m401≤1000000000)(h8:cI (8:Int) l m401 t402=(r403,m404,t405))(h9:inR ((50:Int)*r403))(ed4':d4'=((50:Int)*r403)):aC Tp 1 qO (eZ l sk'4 r7 j dc nb mb tb d0 d1 d2 d3 d4 d5) .normal (eZ l sk'4 r7 j dc nb m404 t405 d0 d1 d2 d3 d4' r400):=by
 subst ed4';have k1:=mq [0] 6 (vI (if (nb-6) > (1:Int) then (nb-6) else (1:Int)) (nb-1) l mb tb h3 h4 h5);have k2:=mq [0] 6 (eE (8:Int) l m401 t402 h7 h8);exact aC.fi ⟨(rng [(1,5),(8,2),(12,28),(43,77)]),[1,2,3,4,5],[],[]⟩ [bF,k1.o,bT,k2.o] (gc h9 (gc k2 (gc (dX h6) (gc k1 (gc h2 (gc h1 (gc (qU h0) gn)))))))
theorem bEh(h0:(4:Int)<d1)(h1:inR (nb-6))(h2:inR (nb-1))(h3:0≤mb∧mb≤1000000000)(h4:(-1000000≤(if (nb-6) > (1:Int) then (nb-6) else (1:Int))∧(if (nb-6) > (1:Int) then (nb-6) else (1:Int))≤1000000) ∧ -1000000≤(nb-1)∧(nb-1)≤1000000)(h5:oM (if (nb-6) > (1:Int) then (nb-6) else (1:Int)) (nb-1) l mb tb=(r400,m401,t402))(h6:d1≠6):aC Tp 1 qO (eZ l sk'4 r7 j dc nb mb tb d0 d1 d2 d3 d4 d5) .normal (eZ l sk'4 r7 j dc nb m401 t402 d0 d1 d2 d3 d4 r400):=by
 have k1:=mq [0] 6 (vI (if (nb-6) > (1:Int) then (nb-6) else (1:Int)) (nb-1) l mb tb h3 h4 h5);exact aC.fi ⟨(rng [(1,5),(8,2),(12,28),(43,77)]),[1,2,3,4,5],[],[]⟩ [bF,k1.o,bF] (gc (bJ h6) (gc k1 (gc h2 (gc h1 (gc (qU h0) gn)))))
end
section
theorem bRh{sk:Lqq}{i:Nat}{a b:Int}(h:sk[i]? = some [a,b]):a∈aP sk 0:=by
 unfold aP;exact kQ9.2 ⟨_,kQ5 h,rfl⟩
theorem aEn{sk:Lqq}{a k mi b mu ab:Int}(ha:1≤a∧a≤9999)(hk:0≤k∧k≤9)(hmi:0≤mi∧mi≤10000)(hmu:0≤mu∧mu≤36000)(hz:mu=0∨(k≠3∧k≠5∧k≤6))(hp:k≤4→b∈aP sk 0∧ab=0)(hq:4<k→b=0∧1≤ab∧ab≤a-1) :
  dcB [a,k,mi,b,mu,ab]=true∧inB sk [a,k,mi,b,mu,ab]=true∧orB [a,k,mi,b,mu,ab]=true:=by
 have hm:mu≤nC k:=by
  unfold nC
  repeat' split
  all_goals first | omega | (simp_all;omega)
 refine ⟨kF.2 ⟨ha,hk,hmi,hmu.1,hm⟩,?_,?_⟩
 ·show (if k≤4 then (aP sk 0).contains b else b == 0)=true
  by_cases h:k≤4
  ·rw [if_pos h];simpa using (hp h).1
  ·rw [if_neg h];simpa using (hq (by omega)).1
 ·show (if k≤4 then ab == 0 else within ab 1 (a-1))=true
  by_cases h:k≤4
  ·rw [if_pos h];simpa using (hp h).2
  ·rw [if_neg h];exact cH.2 (hq (by omega)).2
structure aUi (sk:Lqq) (dc:Lqq) (nu mx:Int) (j:Nat):Prop where
 ud:uni 6 dc
 len:dc.length=j
 num:0≤nu∧nu≤2*(j:Int)
 deck:0≤mx∧mx≤1000+20*(j:Int)
 mem:∀ x∈dc,(dcB x=true∧inB sk x=true∧orB x=true)∧x.getD 0 0≤nu
 up:dc.Pairwise fun a b=>a.getD 0 0<b.getD 0 0
theorem aUi.snoc{sk dc:Lqq}{nu mx:Int}{j:Nat}(h:aUi sk dc nu mx j){a k mi b mu ab mx':Int}(hr:dcB [a,k,mi,b,mu,ab]=true∧inB sk [a,k,mi,b,mu,ab]=true∧orB [a,k,mi,b,mu,ab]=true)(ha:nu<a∧a≤nu+2)(hm:mx≤mx'∧mx'≤mx+20):aUi sk (dc++[[a,k,mi,b,mu,ab]]) a mx' (j+1):=by
 obtain ⟨h1,h2,h3,h4,h5,h6⟩:=h;refine ⟨aOh h1 rfl,by simp [h2],by omega,by omega,fun x hx => ?_,?_⟩
 ·rcases jB.1 hx with hx | hx
  ·exact ⟨(h5 x hx).1,by have:=(h5 x hx).2;omega⟩
  ·rw [List.mem_singleton.1 hx]
   exact ⟨hr,aNk _⟩
 ·rw [List.pairwise_append]
  refine ⟨h6,List.pairwise_singleton _ _,fun x hx y hy => ?_⟩
  rw [List.mem_singleton.1 hy];have:=(h5 x hx).2;show x.getD 0 0<a;omega
theorem bYi{l:List Int}{sk'4 dc:Lqq}{r7 na ma ta c0 c1 c2 c3 c4 c5:Int}{j:Nat}(hm:0≤ma∧ma≤1000000000)(hc:0≤c1∧c1≤9) :
  ∃ m t k,(ma≤m∧m≤ma+1)∧(0≤k∧k≤9)∧(na=1→k≤4)∧aC Tp 1 (sub (cd Tryz.f16) [1,1,1,1,0,1,0,0,1,1,0,0,1,1,1,0]) (iU l sk'4 r7 j dc na ma ta c0 c1 c2 c3 c4 c5) .normal (iU l sk'4 r7 j dc na m t c0 k c2 c3 c4 c5):=by
 by_cases h:na=1
 ·obtain ⟨r,m,t,e⟩:∃ r m t,cI (5:Int) l ma ta=(r,m,t):=⟨_,_,_,rfl⟩
  have b:=gU (5:Int) l ma ta;rw [e] at b
  dsimp only at b
  exact ⟨m,t,r,by omega,by omega,fun _=>by omega,bEb h hm e⟩
 ·exact ⟨ma,ta,c1,by omega,hc,fun q=>absurd q h,bEc h⟩
theorem bYj{l:List Int}{sk'4 dc:Lqq}{r7 nb mb tb d1 d2:Int}{j:Nat}(hm:0≤mb∧mb≤100000000)(hn:1≤nb∧nb≤1000)(hk:0≤d1∧d1≤9)(hk1:nb=1→d1≤4)(h2:0≤d2∧d2≤10000)(hu2:uni 2 sk'4)(hs:1≤sk'4.length∧sk'4.length≤100) :
  ∃ m t b mu ab,(mb≤m∧m≤mb+3)∧(dcB [nb,d1,d2,b,mu,ab]=true∧inB sk'4 [nb,d1,d2,b,mu,ab]=true∧orB [nb,d1,d2,b,mu,ab]=true) ∧
   aC Tp 1 (sub (cd Tryz.f16) [1,1,1,1,0,1,0,0,1,1,0,0,1,1,1,1,0]) (eZ l sk'4 r7 j dc nb mb tb nb d1 d2 0 0 0) .normal (eZ l sk'4 r7 j dc nb m t nb d1 d2 b mu ab):=by
 by_cases h4:d1≤4
 ·obtain ⟨r,m1,t1,e1⟩:∃ r m t,cI (sk'4.length:Int) l mb tb=(r,m,t):=⟨_,_,_,rfl⟩
  have b1:=gU (sk'4.length:Int) l mb tb;rw [e1] at b1
  dsimp only at b1
  have hr:0≤r∧r.toNat<sk'4.length:=by omega
  obtain ⟨a,t',ha⟩:=len2 (hu2 _ (gS hr.2));have hx:sk'4[r.toNat]? = some [a,t']:=by rw [kQ0 hr.2,ha]
  obtain ⟨r8,m2,t2,e2⟩:∃ r m t,cI (8:Int) l m1 t1=(r,m,t):=⟨_,_,_,rfl⟩;have b2:=gU (8:Int) l m1 t1;rw [e2] at b2
  dsimp only at b2
  have hp:d1≤4→a∈aP sk'4 0∧(0:Int)=0:=fun _=>⟨bRh hx,rfl⟩
  by_cases k2:d1=2
  ·obtain ⟨r3,m3,t3,e3⟩:∃ r m t,cI (3:Int) l m2 t2=(r,m,t):=⟨_,_,_,rfl⟩
   have b3:=gU (3:Int) l m2 t2;rw [e3] at b3
   dsimp only at b3
   exact ⟨m3,t3,a,r3,0,by omega,aEn (by omega) hk h2 (by omega) (.inr (by omega)) hp (fun q=>by omega),bEd h4 (by omega) e1 hx hr.1 hu2 (by omega) e2 (by unfold inR;omega) k2 (by omega) e3 (by omega)⟩
  ·by_cases k3:d1=3
   ·exact ⟨m2,t2,a,0,0,by omega,aEn (by omega) hk h2 (by omega) (.inl rfl) hp (fun q=>by omega),bEe h4 (by omega) e1 hx hr.1 hu2 (by omega) e2 (by unfold inR;omega) k2 k3 rfl⟩
   ·exact ⟨m2,t2,a,50*r8,0,by omega,aEn (by omega) hk h2 (by omega) (.inr (by omega)) hp (fun q=>by omega),bEf h4 (by omega) e1 hx hr.1 hu2 (by omega) e2 (by unfold inR;omega) k2 k3 rfl⟩
 ·have hg:(if nb-6 > (1:Int) then nb-6 else 1)=max 1 (nb-6):=by split <;> omega
  obtain ⟨r,m1,t1,e1⟩:∃ r m t,oM (if nb-(6:Int) > (1:Int) then nb-(6:Int) else (1:Int)) (nb-(1:Int)) l mb tb=(r,m,t):=⟨_,_,_,rfl⟩
  have b1:=aBf (if nb-(6:Int) > (1:Int) then nb-(6:Int) else (1:Int)) (nb-(1:Int)) l mb tb
  rw [e1] at b1
  dsimp only at b1
  have hn1:nb≠1:=fun q=>h4 (hk1 q)
  have hlo:1≤(if nb-(6:Int) > (1:Int) then nb-(6:Int) else (1:Int))∧(if nb-(6:Int) > (1:Int) then nb-(6:Int) else (1:Int))≤nb-1:=by rw [hg];omega
  have hq:4<d1→(0:Int)=0∧1≤r∧r≤nb-1:=fun _=>⟨rfl,by omega,by omega⟩
  by_cases k6:d1=6
  ·obtain ⟨r8,m2,t2,e2⟩:∃ r m t,cI (8:Int) l m1 t1=(r,m,t):=⟨_,_,_,rfl⟩
   have b2:=gU (8:Int) l m1 t1;rw [e2] at b2
   dsimp only at b2
   exact ⟨m2,t2,0,50*r8,r,by omega,aEn (by omega) hk h2 (by omega) (.inr (by omega)) (fun q=>absurd q h4) hq,bEg (by omega) (by unfold inR;omega) (by unfold inR;omega) (by omega) (by omega) e1 k6 (by omega) e2 (by unfold inR;omega) rfl⟩
  ·exact ⟨m1,t1,0,0,r,by omega,aEn (by omega) hk h2 (by omega) (.inl rfl) (fun q=>absurd q h4) hq,bEh (by omega) (by unfold inR;omega) (by unfold inR;omega) (by omega) (by omega) e1 k6⟩
theorem bRi{l:List Int}{sk'4 dc:Lqq}{r7 nu mx tt:Int}{j:Nat}(hI:aUi sk'4 dc nu mx j)(hj:(j:Int)<r7)(hr:r7≤100)(hu2:uni 2 sk'4)(hs:1≤sk'4.length∧sk'4.length≤100) :
  ∃ dc' nu' mx' tt',aUi sk'4 dc' nu' mx' (j+1)∧aC Tp 1 (sub (cd Tryz.f16) [1,1,1,1,0,1,0,0]) (eB l sk'4 r7 j dc.length (dc.flatten.map aB) nu mx tt) .normal (eB l sk'4 r7 (j+1) dc'.length (dc'.flatten.map aB) nu' mx' tt'):=by
 have hlen:=hI.len;have hnum:=hI.num;have hdeck:=hI.deck;obtain ⟨r200,m201,t202,e3⟩:∃ r m t,oM (1:Int) (2:Int) l mx tt=(r,m,t):=⟨_,_,_,rfl⟩;have b3:=aBf (1:Int) (2:Int) l mx tt;rw [e3] at b3
 dsimp only at b3
 obtain ⟨r203,m204,t205,e6⟩:∃ r m t,cI (10:Int) l m201 t202=(r,m,t):=⟨_,_,_,rfl⟩;have b6:=gU (10:Int) l m201 t202;rw [e6] at b6
 dsimp only at b6
 obtain ⟨r206,m207,t208,e8⟩:∃ r m t,cI (36:Int) l m204 t205=(r,m,t):=⟨_,_,_,rfl⟩;have b8:=gU (36:Int) l m204 t205;rw [e8] at b8
 dsimp only at b8
 have hin:inR (((j+1):Nat):Int):=aO (by omega)
 have rest:∀ (m t k:Int),(m207≤m∧m≤m207+1)→(0≤k∧k≤9)→∃ m1 t1 k1 m2 t2 b mu ab,(mx≤m2∧m2≤mx+20)∧(dcB [nu+r200,k1,r206,b,mu,ab]=true∧inB sk'4 [nu+r200,k1,r206,b,mu,ab]=true∧orB [nu+r200,k1,r206,b,mu,ab]=true) ∧
   aC Tp 1 (sub (cd Tryz.f16) [1,1,1,1,0,1,0,0,1,1,0,0,1,1,1,0]) (iU l sk'4 r7 j dc (nu+r200) m t (nu+r200) k r206 0 0 0) .normal (iU l sk'4 r7 j dc (nu+r200) m1 t1 (nu+r200) k1 r206 0 0 0) ∧
   aC Tp 1 (sub (cd Tryz.f16) [1,1,1,1,0,1,0,0,1,1,0,0,1,1,1,1,0]) (eZ l sk'4 r7 j dc (nu+r200) m1 t1 (nu+r200) k1 r206 0 0 0) .normal (eZ l sk'4 r7 j dc (nu+r200) m2 t2 (nu+r200) k1 r206 b mu ab):=fun m t k hm hk=>by
  obtain ⟨m1,t1,k1,q1,q2,q3,q4⟩:=bYi (l:=l) (sk'4:=sk'4) (dc:=dc) (r7:=r7) (na:=nu+r200) (ma:=m) (ta:=t) (c0:=nu+r200) (c1:=k) (c2:=r206) (c3:=0) (c4:=0) (c5:=0) (j:=j) (by omega) hk
  obtain ⟨m2,t2,b,mu,ab,s1,s2,s3⟩:=bYj (l:=l) (sk'4:=sk'4) (dc:=dc) (r7:=r7) (nb:=nu+r200) (mb:=m1) (tb:=t1) (d1:=k1) (d2:=r206) (j:=j) (by omega) (by omega) q2 q3 (by omega) hu2 hs
  exact ⟨m1,t1,k1,m2,t2,b,mu,ab,by omega,s2,q4,s3⟩
 by_cases h1:1<nu+r200
 ·by_cases h5:r203<5
  ·obtain ⟨c,m210,t211,e12⟩:∃ r m t,iM (3:Int) l m207 t208=(r,m,t):=⟨_,_,_,rfl⟩
   have b12:=wW (3:Int) l m207 t208;rw [e12] at b12
   dsimp only at b12
   cases c with
   | true =>
    obtain ⟨m1,t1,k1,m2,t2,b,mu,ab,q1,q2,q3,q4⟩:=rest m210 t211 7 (by omega) (by omega)
    exact ⟨_,_,_,_,hI.snoc q2 (by omega) q1,bDw (dc':=dc++[[nu+r200,k1,r206,b,mu,ab]]) hj (by omega) (by omega) e3 (by unfold inR;omega) (by omega) e6 (by omega) e8 h1 h5 (by omega) e12 rfl q3 q4 ⟨rfl,by omega⟩ hin rfl (by simp) (by simp)⟩
   | false =>
    obtain ⟨m1,t1,k1,m2,t2,b,mu,ab,q1,q2,q3,q4⟩:=rest m210 t211 r203 (by omega) (by omega)
    exact ⟨_,_,_,_,hI.snoc q2 (by omega) q1,bDx (dc':=dc++[[nu+r200,k1,r206,b,mu,ab]]) hj (by omega) (by omega) e3 (by unfold inR;omega) (by omega) e6 (by omega) e8 h1 h5 (by omega) e12 rfl q3 q4 ⟨rfl,by omega⟩ hin rfl (by simp) (by simp)⟩
  ·obtain ⟨m1,t1,k1,m2,t2,b,mu,ab,q1,q2,q3,q4⟩:=rest m207 t208 r203 (by omega) (by omega)
   exact ⟨_,_,_,_,hI.snoc q2 (by omega) q1,bDy (dc':=dc++[[nu+r200,k1,r206,b,mu,ab]]) hj (by omega) (by omega) e3 (by unfold inR;omega) (by omega) e6 (by omega) e8 h1 (by omega) q3 q4 ⟨rfl,by omega⟩ hin rfl (by simp) (by simp)⟩
 ·obtain ⟨m1,t1,k1,m2,t2,b,mu,ab,q1,q2,q3,q4⟩:=rest m207 t208 r203 (by omega) (by omega)
  exact ⟨_,_,_,_,hI.snoc q2 (by omega) q1,bDz (dc':=dc++[[nu+r200,k1,r206,b,mu,ab]]) hj (by omega) (by omega) e3 (by unfold inR;omega) (by omega) e6 (by omega) e8 (by omega) q3 q4 ⟨rfl,by omega⟩ hin rfl (by simp) (by simp)⟩
end
section
structure bKx (sk:Lqq) (m0 mx:Int) (i:Nat):Prop where
 us:uni 2 sk
 len:sk.length=i
 deck:m0≤mx∧mx≤m0+2*(i:Int)
 mem:∀ x∈sk,skB x=true∧x.getD 0 0≤3*(i:Int)-2
 tim:∀ x∈sk,x.getD 1 0≤16000
 up:sk.Pairwise fun a b=>a.getD 0 0<b.getD 0 0
theorem bKx.snoc{sk:Lqq}{m0 mx:Int}{i:Nat}(h:bKx sk m0 mx i)(hi:i<100){t mx':Int}(ht : -1≤t∧t≤16000)(hm:mx≤mx'∧mx'≤mx+2):bKx (sk++[[3*(i:Int)+1,t]]) m0 mx' (i+1):=by
 obtain ⟨h1,h2,h3,h4,h6,h5⟩:=h;refine ⟨aOh h1 rfl,by simp [h2],by omega,fun x hx => ?_,fun x hx => ?_,?_⟩
 ·rcases jB.1 hx with hx | hx
  ·exact ⟨(h4 x hx).1,by have:=(h4 x hx).2;omega⟩
  ·rw [List.mem_singleton.1 hx]
   exact ⟨aBe.2 ⟨⟨show 1≤3*(i:Int)+1 by omega,show 3*(i:Int)+1≤999 by omega⟩,ht.1,show t≤360000 by omega⟩,show 3*(i:Int)+1≤_ by omega⟩
 ·rcases jB.1 hx with hx | hx
  ·exact h6 x hx
  ·rw [List.mem_singleton.1 hx]
   exact ht.2
 ·rw [List.pairwise_append]
  refine ⟨h5,List.pairwise_singleton _ _,fun x hx y hy => ?_⟩
  rw [List.mem_singleton.1 hy];have:=(h4 x hx).2;show x.getD 0 0<3*(i:Int)+1;omega
theorem bYf{nd:Int}{l:List Int}{r0 m1 t2:Int}(hr:0≤r0∧r0≤30)(hm:0≤m1∧m1≤1000):∃ sk mx tt,bKx sk m1 mx r0.toNat∧aH Tp 1 (sub (cd Tryz.f16) [1,1,0,1,0,0]) (iT nd l r0 0 0 [] m1 t2) (.exit 0) (iT nd l r0 r0.toNat sk.length (sk.flatten.map aB) mx tt):=by
 obtain ⟨A,hI,hL⟩:=aH.ex (P:=Tp) (k:=1) (b:=sub (cd Tryz.f16) [1,1,0,1,0,0]) (e := .exit 0) (fun i (A:Lqq × Int × Int)=>iT nd l r0 i A.1.length (A.1.flatten.map aB) A.2.1 A.2.2) (fun A=>iT nd l r0 r0.toNat A.1.length (A.1.flatten.map aB) A.2.1 A.2.2)
  (fun i A=>bKx A.1 m1 A.2.1 i) (by simp) r0.toNat
  (fun i A hi hA=>by
   obtain ⟨sk,mx,tt⟩:=A;have hd:=hA.deck;have hl:=hA.len;dsimp only at hd hl
   obtain ⟨r,m,t,e⟩:∃ r m t,cI 20 l mx tt=(r,m,t):=⟨_,_,_,rfl⟩;have b:=gU 20 l mx tt;rw [e] at b
   dsimp only at b
   obtain ⟨c,m',t',e'⟩:∃ r m2 t2,iM 12 l m t=(r,m2,t2):=⟨_,_,_,rfl⟩;have b':=wW 12 l m t;rw [e'] at b'
   dsimp only at b'
   have hm2:mx≤m'∧m'≤mx+2:=by omega
   have hmx:0≤mx∧mx≤1000000000:=by omega
   have hm3:0≤m∧m≤1000000000:=by omega
   have hsl:sk.length+1≤1000000:=by omega
   cases c with
   | true =>
    refine ⟨(sk++[[3*(i:Int)+1,-1]],m',t'),hA.snoc (by omega) (by omega) hm2,?_⟩
    exact bDt (by omega) (by unfold inR;omega) (by unfold inR;omega) hmx e (by unfold inR;omega) (by unfold inR;omega) hm3 e' rfl ⟨rfl,hsl⟩ (aO (by omega)) rfl (by simp) (by simp)
   | false =>
    refine ⟨(sk++[[3*(i:Int)+1,15000+50*r]],m',t'),hA.snoc (by omega) (by omega) hm2,?_⟩
    exact bDu (by omega) (by unfold inR;omega) (by unfold inR;omega) hmx e (by unfold inR;omega) (by unfold inR;omega) hm3 e' rfl ⟨rfl,hsl⟩ (aO (by omega)) rfl (by simp) (by simp))
  (fun A _=>bDv (by omega)) (acc:=([],m1,t2)) ⟨fun x h=>by simp at h,rfl,⟨aNk _,by show m1≤_;omega⟩,fun x h=>by simp at h,fun x h=>by simp at h,.nil⟩
 exact ⟨_,_,_,hI,hL⟩
theorem bYg{l:List Int}{sk:Lqq}{r7 m8 t9:Int}(hr:0≤r7∧r7≤100)(hu:uni 2 sk)(hs:1≤sk.length∧sk.length≤100)(hm:0≤m8∧m8≤1000):∃ dc nu mx tt,aUi sk dc nu mx r7.toNat∧aH Tp 1 (sub (cd Tryz.f16) [1,1,1,1,0,1,0,0]) (eB l sk r7 0 0 [] 0 m8 t9) (.exit 2) (eB l sk r7 r7.toNat dc.length (dc.flatten.map aB) nu mx tt):=by
 obtain ⟨A,hI,hL⟩:=aH.ex (P:=Tp) (k:=1) (b:=sub (cd Tryz.f16) [1,1,1,1,0,1,0,0]) (e := .exit 2) (fun j (A:Lqq × Int × Int × Int)=>eB l sk r7 j A.1.length (A.1.flatten.map aB) A.2.1 A.2.2.1 A.2.2.2) (fun A=>eB l sk r7 r7.toNat A.1.length (A.1.flatten.map aB) A.2.1 A.2.2.1 A.2.2.2)
  (fun j A=>aUi sk A.1 A.2.1 A.2.2.1 j) (by simp) r7.toNat
  (fun j A hj hA=>by
   obtain ⟨dc',nu',mx',tt',h1,h2⟩:=bRi (l:=l) (tt:=A.2.2.2) hA (r7:=r7) (by omega) hr.2 hu hs
   exact ⟨(dc',nu',mx',tt'),h1,h2⟩)
  (fun A _=>bEa (by omega)) (acc:=([],0,m8,t9)) ⟨fun x h=>by simp at h,rfl,⟨aNk _,by show (0:Int)≤_;omega⟩,⟨hm.1,by show m8≤_;omega⟩,fun x h=>by simp at h,.nil⟩
 exact ⟨_,_,_,_,hI,hL⟩
theorem bYh{ns nd:Int}{l:List Int}{nx st:Int}(hns:1≤ns∧ns≤30)(hnd:0≤nd∧nd≤40)(hnx:0≤nx∧nx≤900):∃ sk dc mx tt,bG 30 sk dc∧(sk.length:Int)≤ns∧(dc.length:Int)≤nd∧(0≤mx∧mx≤4000)∧(sk.Pairwise fun a b=>a.getD 0 0<b.getD 0 0)∧(dc.Pairwise fun a b=>a.getD 0 0<b.getD 0 0)∧(∀ x∈dc,x.getD 0 0≤80)∧(∀ x∈sk,x.getD 0 0≤88∧x.getD 1 0≤16000) ∧
  FMM Tp 16 [.ptr 0 0,.p (aB ns),.p (aB nd)] [some (jC l nx st)] (.p (.agg (cR 30 sk dc))) [some (jC l mx tt)]:=by
 obtain ⟨r0,m1,t2,e0⟩:∃ r m t,oM 1 ns l nx st=(r,m,t):=⟨_,_,_,rfl⟩;have b0:=aBf 1 ns l nx st;rw [e0] at b0
 dsimp only at b0
 obtain ⟨sk,mx,tt,hS,hL0⟩:=bYf (nd:=nd) (l:=l) (r0:=r0) (m1:=m1) (t2:=t2) (by omega) (by omega)
 have hsl:=hS.len;have hsd:=hS.deck;obtain ⟨r7,m8,t9,e7⟩:∃ r m t,cI (nd+1) l mx tt=(r,m,t):=⟨_,_,_,rfl⟩;have b7:=gU (nd+1) l mx tt;rw [e7] at b7
 dsimp only at b7
 obtain ⟨dc,nu,mx',tt',hM,hL1⟩:=bYg (l:=l) (sk:=sk) (r7:=r7) (m8:=m8) (t9:=t9) (by omega) hS.us (by omega) (by omega)
 have hml:=hM.len;have hmd:=hM.deck;have hnod:∀ {f:Lqq},(f.Pairwise fun a b=>a.getD 0 0<b.getD 0 0)→(aP f 0).Nodup:=fun {f} h=>by
  unfold aP;rw [List.Nodup,List.pairwise_map];exact h.imp fun h=>by omega
 refine ⟨sk,dc,mx',tt',⟨hS.us,hM.ud,by omega,by omega,by omega,fun x hx=>(hS.mem x hx).1,fun x hx=>(hM.mem x hx).1.1,hnod hS.up,hnod hM.up,fun x hx=>(hM.mem x hx).1.2.1,fun x hx=>(hM.mem x hx).1.2.2⟩,by omega,by omega,by omega,hS.up,hM.up,fun x hx => ?_,fun x hx=>⟨?_,hS.tim x hx⟩,?_⟩
 ·have h1:=(hM.mem x hx).2
  have h2:=hM.num;omega
 ·have:=(hS.mem x hx).2
  omega
 exact bYk (by omega) (by omega) e0 hL0 (by unfold inR;omega) (by omega) e7 hL1
end
section
open Go.RowKit Go.Lib Go.Shelf
theorem bZm{n:Nat}{x:PV}{r:List PV}{r0n:Nat}{r0c:List PV}(h0:(x::r).length=n*1∧0+n≤1000000)(er0n:r0n=(0+n))(er0c:r0c=(x::r)){base:Nat}:FV Tp 55 [(.p (.sl n (x::r)))] base (.own base) [(base,(.row 3 r0n r0c))]:=by
 subst er0n er0c;exact FV.fi Tryz.func55 [] (gc h0 gn)
set_option maxHeartbeats 1000000 in
theorem bRo(n c:Nat)(w:World):Calls Tp 55 #[.slice none n c] w fun e w'=>e = .returned (.slice none 0 0)∧w'=w:=by
 have q33:∀ (w:World) (a:Option Addr) (n c n' c':Nat),(binOp .eql 33 (.slice a n c) (.slice none n' c')).run Tp w = .ok (.bool a.isNone) w:=fun w a n c n' c'=>Lib.run_eql_slice_nil w _ _ a n c n' c' Tryz.underlying33
 go_enter Tryz.func55,Tryz.ntmps55
 go_wp2
 go_ret
 exact ⟨rfl,rfl⟩
theorem inf3:(Tryz.prog.info? 3).map (fun i=>(i.zero,i.size,i.bytes))=some (some (.int .i64 0),1,8):=by kernel_rfl
set_option maxHeartbeats 2000000 in
theorem bLg(a:Addr)(c:Nat)(w:World):Calls Tp 55 #[.slice (some a) 0 c] w fun e w'=>∃ v',e = .returned v'∧w'.ownsRow w.heap.size 3 1 v' 0 []∧Below w.heap.size w w':=by
 obtain ⟨i0,hi,hz0,hz1,hz2⟩:=info_parts inf3;have q33:∀ (w:World) (a:Option Addr) (n c n' c':Nat),(binOp .eql 33 (.slice a n c) (.slice none n' c')).run Tp w = .ok (.bool a.isNone) w:=fun w a n c n' c'=>Lib.run_eql_slice_nil w _ _ a n c n' c' Tryz.underlying33
 go_enter Tryz.func55,Tryz.ntmps55
 go_wp2_with (at_builtin;refine wpList_append_own _ rfl _ _ 33 rfl w.heap.size 3 i0 (.int .i64 0) 1 8 Tryz.underlying33 hi hz0 hz1 hz2 rfl (by decide) _ _ _ rfl (World.ownsRow_made w #[] 0 (dM _) (Nat.zero_le _) rfl) a 0 c [] rfl rfl (by intro j u hj;simp at hj) (by intro u hu;cases hu) (by unfold maxLen;omega) (by omega) (by simp) ?_)
 intro v' w1 hown hgrow hnil
 go_wp2
 go_ret
 refine ⟨v',rfl,by simpa using hown,?_⟩
 exact ((Below.refl _ w).alloc (dM _) _).grown hgrow (by simp) (by intro k hk;simp [Value.ownBlock] at hk;omega)
theorem bFl{base:Nat}:FV Tp 55 [.p (.sl 0 [])] base (.own base) [(base,.row 3 0 [])]:=bDa (tI (show (Tryz.prog.info? 3).map (fun i=>i.size)=some 1 by kernel_rfl)) fun p c w=>by
 cases p with
 | none =>
  refine (bRo 0 c w).mono ?_;rintro e w' ⟨rfl,rfl⟩;exact ⟨_,rfl,World.ownsRow_nil _ _ _ _,Below.refl _ _⟩
 | some a=>exact bLg a c w
theorem bLh(l:List Int)(hl:l.length≤1000){base:Nat}:FV Tp 55 [.p (aF l)] base (.own base) [(base,.row 3 l.length (l.map aB))]:=by
 cases l with
 | nil=>exact bFl
 | cons x l=>exact bZm (n:=(x::l).length) (x:=aB x) (r:=l.map aB) ⟨by simp,by simp at hl ⊢;omega⟩ (by simp) rfl
end
section
variable {b201:Bool}{mn mx mn' mx' n200 y100 y101:Int}{T202:Lqb}{x o102:List Int}{i aln chn base ch'n:Nat}
variable {dl:Int}{sk dc:Lqq}

theorem aKw:0≤(1:Int)∧(1:Int)<2:=by first | decide | simp
theorem aKx:0≤(0:Int)∧(0:Int)<2:=by first | decide | simp
abbrev cBu(l:List Int)(dl:Int)(sk dc:Lqq)(bib tm:Int)(o:List Int):Prop:=FMM Tp 54 [.own 0,.fn 189 [] [.rp [bIn dl sk dc] 0,.rp [aB bib,aB tm] 0]] [some (.row 3 l.length (l.map aB))] (.p (aF o)) [some .dead]
def chE(x:Int × Bool × List Int):List PV:=[aB x.1,blP x.2.1,aF x.2.2]
def oP(dl:Int)(sk:Lqq)(dc:Lqq)(aln:Nat)(alc:List PV)(i:Nat):St:=⟨fr 77 [(1,(.rp [(PV.rp (aX dl sk dc) 0)] 0)),(2,(.p dR)),(3,(pI 0)),(4,(.p (aF (aN dl dc)))),(5,(.own 0)),(22,(.p (fS sk))),(23,(pI (sk.length:Int))),(24,(pI (i:Int)))],[some (.row 195 aln alc)]⟩
theorem bZk(h0:bZ dc)(h1:(8:Int)<(((aN dl dc).length:Nat):Int)):FV Tp 161 [(.rp (aX dl sk dc) 0)] base (.tup [(.p dR),(pI 10)]) []:=by
 have k1:=fk 0 (qE (dl:=dl) (sk:=sk) (dc:=dc) h0) rfl;exact FV.fi Tryz.func161 [.g 3 ⟨[],[],[0],[]⟩,.x (PV.rp (aX dl sk dc) 0),k1.o,.g 2 ⟨[],[],[0],[]⟩,bT] (gc (aV h1) (gc k1 (gr (PV.rp (aX dl sk dc) 0) gn)))
theorem bZl{al'0n:Nat}{al'0c:List PV}{i'1:Nat}(h0:bZ dc)(h1:(((aN dl dc).length:Nat):Int)≤8)(hl2:aH Tp 0 (sub (cd Tryz.f161) [1,1,1,1,0,1,0,0]) (oP dl sk dc 0 [] 0) (.exit 0) (oP dl sk dc al'0n al'0c i'1)):FV Tp 161 [(.rp (aX dl sk dc) 0)] base (.tup [(.own base),(pI 0)]) [(base,(.row 195 al'0n al'0c))]:=by
 have k1:=fk 0 (qE (dl:=dl) (sk:=sk) (dc:=dc) h0) rfl;exact FV.fi Tryz.func161 [.g 3 ⟨[],[],[0],[]⟩,.x (PV.rp (aX dl sk dc) 0),k1.o,.g 2 ⟨[],[],[0],[]⟩,bF,.x (PV.rp (aX dl sk dc) 0),.x (fS sk),hl2.k 1 ⟨(rng [(0,1),(6,16),(25,51)]),[0],[],[(5,195)]⟩] (gc hl2.code (gr (fS sk) (gr (PV.rp (aX dl sk dc) 0) (gc (bA h1) (gc k1 (gr (PV.rp (aX dl sk dc) 0) gn))))))
def aKy(dl:Int)(sk:Lqq)(dc:Lqq)(aln:Nat)(alc:List PV)(i:Nat)(y100:Int)(y101:Int)(o102:List Int)(chn:Nat)(chc:List PV)(mn:Int)(mx:Int):St:=⟨fr 77 [(1,(.rp [(PV.rp (aX dl sk dc) 0)] 0)),(2,(.p dR)),(3,(pI 0)),(4,(.p (aF (aN dl dc)))),(5,(.own 0)),(7,(.rp [(aB y100),(aB y101)] 0)),(8,(.p (aF o102))),(9,(.ptr 2 0)),(22,(.p (fS sk))),(23,(pI (sk.length:Int))),(24,(pI (i:Int))),(25,(pB (decide ((i:Int)<(sk.length:Int))))),(26,(.rp (sk.flatten.map aB) (i*2))),(27,(.p (.agg [(aB y100),(aB y101)]))),(28,(.p (aF (aN dl dc)))),(29,(.own 1)),(30,(.fn 189 [] [(.rp [(PV.rp (aX dl sk dc) 0)] 0),(.rp [(aB y100),(aB y101)] 0)])),(31,(.p (aF o102))),(32,(.p (.agg [(aB 1099511627776),(aB 0)]))),(33,(.p (.agg [dR,(aB 1099511627776),(aB 0)]))),(34,(.p (aF o102))),(35,(.fn 182 [] [(.rp [(aF o102)] 0)]))],[some (.row 195 aln alc),some .dead,some (.box 195 [(.own 3),(pI mn),(pI mx)]),some (.row 197 chn chc)]⟩
def aUm(dl:Int)(sk:Lqq)(dc:Lqq)(aln:Nat)(alc:List PV)(i:Nat)(y100:Int)(y101:Int)(o102:List Int):St:=⟨fr 77 [(1,(.rp [(PV.rp (aX dl sk dc) 0)] 0)),(2,(.p dR)),(3,(pI 0)),(4,(.p (aF (aN dl dc)))),(5,(.own 0)),(7,(.rp [(aB y100),(aB y101)] 0)),(8,(.p (aF o102))),(9,(.ptr 2 0)),(22,(.p (fS sk))),(23,(pI (sk.length:Int))),(24,(pI (i:Int))),(25,(pB (decide ((i:Int)<(sk.length:Int))))),(26,(.rp (sk.flatten.map aB) (i*2))),(27,(.p (.agg [(aB y100),(aB y101)]))),(28,(.p (aF (aN dl dc)))),(29,(.own 1)),(30,(.fn 189 [] [(.rp [(PV.rp (aX dl sk dc) 0)] 0),(.rp [(aB y100),(aB y101)] 0)])),(31,(.p (aF o102))),(32,(.p (.agg [(aB 1099511627776),(aB 0)]))),(33,(.p (.agg [dR,(aB 1099511627776),(aB 0)]))),(34,(.p (aF o102))),(35,(.fn 182 [] [(.rp [(aF o102)] 0)]))],[some (.row 195 aln alc),some .dead,some (.box 195 [(.p dR),(pI 1099511627776),(pI 0)])]⟩
theorem bFh{alc:List PV}{ch'103n:Nat}{ch'103c:List PV}{mn'104 mx'105:Int}{al'n:Nat}{al'c:List PV}{i':Nat}(h0:(i:Int)<(sk.length:Int))(h1:sk[i]? = some [y100,y101])(h2:uni 2 sk)(h3:(aN dl dc).length≤1000)(h4:cBu (aN dl dc) dl sk dc y100 y101 o102)(hl5:aC Tp 0 (sub (cd Tryz.f161) [1,1,1,1,0,1,0,0,1,1,0,0,1,1,1,0,1,0]) (aUm dl sk dc aln alc i y100 y101 o102) .normal (aKy dl sk dc aln alc i y100 y101 o102 ch'103n ch'103c mn'104 mx'105))(h6:[(.sl ch'103n ch'103c),(aB mn'104),(aB mx'105)].length=1*3∧aln+1≤1000000)(h7:inR (((i+1):Nat):Int))(eal'n:al'n=(aln+1))(eal'c:al'c=(alc++[(.sl ch'103n ch'103c),(aB mn'104),(aB mx'105)]))(ei':i'=(i+1)):aC Tp 0 (sub (cd Tryz.f161) [1,1,1,1,0,1,0,0]) (oP dl sk dc aln alc i) .normal (oP dl sk dc al'n al'c i'):=by
 subst eal'n eal'c ei';have k1:=fk 1 (bLh (aN dl dc) h3) rfl;have k2:=mq [1] 2 h4;have k3:=fk 3 (aRr (q:=o102)) rfl;exact aC.fi ⟨(rng [(0,1),(6,16),(25,51)]),[3],[],[]⟩ [bT,.x (.agg [(aB y100),(aB y101)]),.g 1 ⟨[],[0],[1],[]⟩,k1.o,k2.o,k3.o,hl5.k 1 ⟨(rng [(0,1),(6,1),(10,12),(36,35)]),[0,1,2],[],[]⟩,.g 0 ⟨[29],[0,2],[3],[]⟩] (gc h7 (gc h6 (gt ([(.sl ch'103n ch'103c),(aB mn'104),(aB mx'105)].length=3) (by first | decide | simp) (gc hl5 (gc k3 (gc k2 (gc k1 (gc (aT (i:=i) h2 h1) (gc (bH (i:=i) h2 h1) (gc (bR (k:=2) (i:=(i:Int)) (by decide) h2 (kQ1 _) h1) (gc (aV h0) gn)))))))))))
theorem bFi{alc:List PV}(h0:(sk.length:Int)≤(i:Int)):aC Tp 0 (sub (cd Tryz.f161) [1,1,1,1,0,1,0,0]) (oP dl sk dc aln alc i) (.exit 0) (oP dl sk dc aln alc i):=by
 exact aC.fi ⟨(rng [(0,1),(6,16),(25,51)]),[0],[],[]⟩ [bF] (gc (bA h0) gn)
def aUn(dl:Int)(sk:Lqq)(dc:Lqq)(aln:Nat)(alc:List PV)(i:Nat)(y100:Int)(y101:Int)(o102:List Int)(chn:Nat)(chc:List PV)(mn:Int)(mx:Int):St:=⟨fr 77 [(1,(.rp [(PV.rp (aX dl sk dc) 0)] 0)),(2,(.p dR)),(3,(pI 0)),(4,(.p (aF (aN dl dc)))),(5,(.own 0)),(7,(.rp [(aB y100),(aB y101)] 0)),(8,(.p (aF o102))),(9,(.ptr 2 0)),(22,(.p (fS sk))),(23,(pI (sk.length:Int))),(24,(pI (i:Int))),(25,(pB (decide ((i:Int)<(sk.length:Int))))),(26,(.rp (sk.flatten.map aB) (i*2))),(27,(.p (.agg [(aB y100),(aB y101)]))),(28,(.p (aF (aN dl dc)))),(30,(.fn 189 [] [(.rp [(PV.rp (aX dl sk dc) 0)] 0),(.rp [(aB y100),(aB y101)] 0)])),(31,(.p (aF o102))),(32,(.p (.agg [(aB 1099511627776),(aB 0)]))),(33,(.p (.agg [dR,(aB 1099511627776),(aB 0)]))),(34,(.p (aF o102))),(35,(.fn 182 [] [(.rp [(aF o102)] 0)]))],[some (.row 195 aln alc),some .dead,some (.box 195 [(.own 5),(pI mn),(pI mx)]),some .dead,some .dead,some (.row 197 chn chc)]⟩
theorem bFj{alc:List PV}{chc:List PV}{ch'c:List PV}(h0:aFr dl sk dc (aF x) [y100,y101] n200 b201 ([]:Lqb) T202)(h1:b201=true)(h2:[(aB 1099511627776),(blP b201),(aF x)].length=1*3∧chn+1≤1000000)(h3:([(1099511627776:Int)]:List Int).length≤1000)(ech'n:ch'n=(chn+1))(ech'c:ch'c=(chc++[(aB 1099511627776),(blP b201),(aF x)]))(emn':mn'=(if (1099511627776:Int)<mn then (1099511627776:Int) else mn))(emx':mx'=(aAp mx ([(1099511627776:Int)]:List Int))):aC Tp 5 (sub (cd Tryz.f161) [1,1,1,1,0,1,0,0,1,1,0,0,1,1,1,0,1,0,1]) (rfO (aKy dl sk dc aln alc i y100 y101 o102 chn chc mn mx) 36 10 x) .normal (aUn dl sk dc aln alc i y100 y101 o102 ch'n ch'c mn' mx'):=by
 subst ech'n ech'c emn' emx';have k1:=mN [] 5 (qH (dl:=dl) (sk:=sk) (dc:=dc) (on:=x.length) (ol:=(x.map aB)));have k2:=mq [5,6,7,8,9,10,11] 13 h0;exact aC.fi ⟨(rng [(0,1),(6,1),(10,12),(36,35)]),[13],[],[]⟩ [.g 2 ⟨[29],[],[4],[]⟩,.x (PV.rp (aX dl sk dc) 0),.x (.agg [(aB y100),(aB y101)]),.x (PV.rp (aX dl sk dc) 0),k1.o,k2.o,bT,.c (pI (aAp mx ([(1099511627776:Int)]:List Int))) []] (gc aKw (gc aKx (gt (FC Tp 184 [(pI mx),(.own 15)] [(15,(.row 3 1 [(aB 1099511627776)]))] 16 (pI (aAp mx ([(1099511627776:Int)]:List Int))) []) (fv (aSh mx ([(1099511627776:Int)]:List Int) h3)) (gc aKw (gc aKx (gc h2 (gt ([(aB 1099511627776),(blP b201),(aF x)].length=3) (by first | decide | simp) (gc h1 (gc k2 (gc k1 (gr (PV.rp (aX dl sk dc) 0) (gr (.agg [(aB y100),(aB y101)]) (gt (0+2≤[(aB y100),(aB y101)].length) (by first | decide | simp) (gr (PV.rp (aX dl sk dc) 0) gn))))))))))))))
theorem bFk{alc:List PV}{chc:List PV}{ch'c:List PV}(h0:aFr dl sk dc (aF x) [y100,y101] n200 b201 ([]:Lqb) T202)(h1:b201=false)(h2:[(aB n200),(blP b201),(aF x)].length=1*3∧chn+1≤1000000)(h3:([n200]:List Int).length≤1000)(ech'n:ch'n=(chn+1))(ech'c:ch'c=(chc++[(aB n200),(blP b201),(aF x)]))(emn':mn'=(if n200<mn then n200 else mn))(emx':mx'=(aAp mx ([n200]:List Int))):aC Tp 5 (sub (cd Tryz.f161) [1,1,1,1,0,1,0,0,1,1,0,0,1,1,1,0,1,0,1]) (rfO (aKy dl sk dc aln alc i y100 y101 o102 chn chc mn mx) 36 10 x) .normal (aUn dl sk dc aln alc i y100 y101 o102 ch'n ch'c mn' mx'):=by
 subst ech'n ech'c emn' emx';have k1:=mN [] 5 (qH (dl:=dl) (sk:=sk) (dc:=dc) (on:=x.length) (ol:=(x.map aB)));have k2:=mq [5,6,7,8,9,10,11] 13 h0;exact aC.fi ⟨(rng [(0,1),(6,1),(10,12),(36,35)]),[13],[],[]⟩ [.g 2 ⟨[29],[],[4],[]⟩,.x (PV.rp (aX dl sk dc) 0),.x (.agg [(aB y100),(aB y101)]),.x (PV.rp (aX dl sk dc) 0),k1.o,k2.o,bF,.c (pI (aAp mx ([n200]:List Int))) []] (gc aKw (gc aKx (gt (FC Tp 184 [(pI mx),(.own 15)] [(15,(.row 3 1 [(aB n200)]))] 16 (pI (aAp mx ([n200]:List Int))) []) (fv (aSh mx ([n200]:List Int) h3)) (gc aKw (gc aKx (gc h2 (gt ([(aB n200),(blP b201),(aF x)].length=3) (by first | decide | simp) (gc h1 (gc k2 (gc k1 (gr (PV.rp (aX dl sk dc) 0) (gr (.agg [(aB y100),(aB y101)]) (gt (0+2≤[(aB y100),(aB y101)].length) (by first | decide | simp) (gr (PV.rp (aX dl sk dc) 0) gn))))))))))))))
end
section
section
variable {α:Type} {E:α→List PV} {k:Nat}
theorem aXb(hE:∀ a,(E a).length=k)(l:List α):((l.map E).flatten).length=l.length*k:=by
 induction l with
 | nil=>simp
 | cons a l ih=>rw [gZ,wN,kT,hE,ih,qZ,aFp];omega
theorem yU(hE:∀ a,(E a).length=k){l:List α}{i:Nat}{e:α}(h:l[i]? = some e):∃ a b,(l.map E).flatten=a++(E e++b)∧a.length=i*k:=by
 obtain ⟨hi,rfl⟩:=kQ3.1 h;refine ⟨((l.take i).map E).flatten,((l.drop (i+1)).map E).flatten,?_,?_⟩
 ·have:l=l.take i++(l[i]::l.drop (i+1)):=by rw [← aZb hi,aZc]
  have e2:=congrArg (fun l=>(l.map E).flatten) this
  simp only [gJ,gZ,bHo,wN] at e2
  exact e2
 ·rw [aXb hE,mY];congr 1;omega
theorem fQ{l:List α}{i f:Nat}(hE:∀ a,(E a).length=k){e:α}{x:PV}(h:l[i]? = some e)(hx:(E e)[f]? = some x):((l.map E).flatten)[i*k+f]? = some x:=by
 obtain ⟨a,b,e1,e2⟩:=yU hE h;have hf:=(kQ3.1 hx).1;rw [e1,← e2,aAg (by omega),Nat.add_sub_cancel_left,aAh hf]
 exact hx
theorem fA{l:List α}{i:Nat}(hE:∀ a,(E a).length=k){e:α}(h:l[i]? = some e):i*k+k≤((l.map E).flatten).length:=by
 obtain ⟨a,b,e1,e2⟩:=yU hE h;rw [e1,kT,kT,hE,e2];omega
theorem cV{l:List α}{i:Nat}(hE:∀ a,(E a).length=k){e:α}(h:l[i]? = some e){x:PV}(hx:PV.agg (E e)=x):some (.agg ((((l.map E).flatten).drop (i*k)).take k):PV)=some x:=by
 obtain ⟨a,b,e1,e2⟩:=yU hE h;rw [e1,← e2,List.drop_left,List.take_left' (hE e),hx]
theorem cW{l:List α}{i:Int}(hE:∀ a,(E a).length=k)(hk:0<k)(h0:0≤i){e:α}(h:l[i.toNat]? = some e):0≤i∧i<(l.length:Int)∧i.toNat*k<((l.map E).flatten).length:=by
 have hi:=(kQ3.1 h).1;refine ⟨h0,by omega,?_⟩
 rw [aXb hE];exact Nat.mul_lt_mul_of_pos_right hi hk
end
end
section
abbrev aS:=Int × Bool × List Int
abbrev eM:=List aS × Int × Int
def hpE(h:eM):List PV:=[.sl h.1.length (h.1.map chE).flatten,aB h.2.1,aB h.2.2]
abbrev far:Int:=1099511627776
def chM(dl:Int)(dc:Lqq)(s0 s1:Int)(q:List Int):aS:=(if (cE dl q dc s0 s1).2 then far else (cE dl q dc s0 s1).1,(cE dl q dc s0 s1).2,q)
def mnM(l:List aS):Int:=l.foldl (fun m x=>if x.1<m then x.1 else m) far
def mxM(l:List aS):Int:=l.foldl (fun m x=>if x.1 > m then x.1 else m) 0
def gM(dl:Int)(dc:Lqq)(s0 s1:Int)(o:List Int):eM:=((gL o).map (chM dl dc s0 s1),mnM ((gL o).map (chM dl dc s0 s1)),mxM ((gL o).map (chM dl dc s0 s1)))
def tZ(dc:Lqq)(n:Int):Int:=match ofN dc n with
 | some x=>lJ dc x
 | none=>0
def jK(dl:Int)(dc:Lqq)(bib:Int):List Int:=(aN dl dc).filter fun n => !(tZ dc n != bib)
def aE(dl:Int)(sk dc:Lqq):List eM:=sk.map fun s=>gM dl dc (s.getD 0 0) (s.getD 1 0) (jK dl dc (s.getD 0 0))
theorem aXa(x:aS):kC (chE x)=true:=by
 obtain ⟨a,b,l⟩:=x;show (nmP (aB a) && (nmP (blP b) && (nmP (aF l) && true)))=true;have h:nmP (aF l)=true:=by
  show kC (l.map aB)=true;exact aDr aB (fun _=>rfl) l
 rw [h];rfl
theorem aAa:∀ (a b:List PV),kC (a++b)=(kC a && kC b)
 | [],b=>rfl
 | x::a,b=>by
  show (nmP x && kC (a++b))=((nmP x && kC a) && kC b);rw [aAa a b,Bool.and_assoc]
theorem tL{α:Type}{E:α→List PV}(h:∀ a,kC (E a)=true):∀ l:List α,kC (l.map E).flatten=true
 | []=>rfl
 | a::l=>by rw [gZ,wN,aAa,h a,tL h l];rfl
theorem bRm(x:eM):kC (hpE x)=true:=by
 obtain ⟨l,a,b⟩:=x;show (kC (l.map chE).flatten && (nmP (aB a) && (nmP (aB b) && true)))=true;rw [tL aXa];rfl
def bZj(dl:Int)(sk dc:Lqq)(al:List eM)(i:Nat)(y0 y1:Int)(o:List Int)(l:List aS):St:=aKy dl sk dc al.length (al.map hpE).flatten i y0 y1 o l.length (l.map chE).flatten (mnM l) (mxM l)
def cBh(dl:Int)(sk dc:Lqq)(al:List eM)(i:Nat)(y0 y1:Int)(o:List Int)(l:List aS):St:=aUn dl sk dc al.length (al.map hpE).flatten i y0 y1 o l.length (l.map chE).flatten (mnM l) (mxM l)
theorem bRn(l:List aS)(c:aS):(l++[c]).length=l.length+1∧((l++[c]).map chE).flatten=(l.map chE).flatten++chE c∧mnM (l++[c])=(if c.1<mnM l then c.1 else mnM l)∧mxM (l++[c])=aAp (mxM l) [c.1]:=by
 refine ⟨by simp,by simp,?_,?_⟩
 ·unfold mnM;rw [aJh];rfl
 ·unfold mxM;rw [aJh];rfl
theorem bFf{dl:Int}{sk dc:Lqq}(hd:bZ dc){al:List eM}{i:Nat}{y0 y1:Int}(hs : -1≤y1∧y1≤360000){o:List Int}{l:List aS}(hl:l.length+1≤1000000){x:List Int}(hx:x.length≤1000) :
  aC Tp 5 (sub (cd Tryz.f161) [1,1,1,1,0,1,0,0,1,1,0,0,1,1,1,0,1,0,1]) (rfO (bZj dl sk dc al i y0 y1 o l) 36 10 x) .normal (cBh dl sk dc al i y0 y1 o (l++[chM dl dc y0 y1 x])):=by
 obtain ⟨T',_,hT⟩:=bJb (sk:=sk) hd (fun n=>aDw hx n) y0 y1 hs (T:=[]) cL.nil
 obtain ⟨e1,e2,e3,e4⟩:=bRn l (chM dl dc y0 y1 x);cases hb:(cE dl x dc y0 y1).2 with
 | true =>
  have ec:chM dl dc y0 y1 x=(far,true,x):=by unfold chM;rw [hb];rfl
  rw [hb] at hT
  rw [ec] at e1 e2 e3 e4 ⊢
  exact bFj hT rfl ⟨rfl,hl⟩ (by simp) e1 e2 e3 e4
 | false =>
  have ec:chM dl dc y0 y1 x=((cE dl x dc y0 y1).1,false,x):=by unfold chM;rw [hb];rfl
  rw [hb] at hT
  rw [ec] at e1 e2 e3 e4 ⊢
  exact bFk hT rfl ⟨rfl,hl⟩ (by simp) e1 e2 e3 e4
theorem bFg{dl:Int}{sk dc:Lqq}(hd:bZ dc){al:List eM}{i:Nat}{y0 y1:Int}(hs : -1≤y1∧y1≤360000){o:List Int}(ho:o.length≤8) :
  aC Tp 0 (sub (cd Tryz.f161) [1,1,1,1,0,1,0,0,1,1,0,0,1,1,1,0,1,0]) (aUm dl sk dc al.length (al.map hpE).flatten i y0 y1 o) .normal (bZj dl sk dc al i y0 y1 o ((gL o).map (chM dl dc y0 y1))):=by
 have hp:(2:Nat) ^ o.length≤256:=fT (Nat.pow_le_pow_right (by omega) ho) (by decide)
 refine (aHl (P:=Tp) (k:=0) (kb:=5) (kk:=3) (g0:=⟨[],[3],[],[(102000,197)]⟩) (g1:=⟨[],[5],[],[]⟩) (aUm dl sk dc al.length (al.map hpE).flatten i y0 y1 o)
  (fun pre=>bZj dl sk dc al i y0 y1 o (pre.map (chM dl dc y0 y1))) (fun pre l=>cBh dl sk dc al i y0 y1 o ((pre++[l]).map (chM dl dc y0 y1))) (fun _ _=>⟨[],[]⟩) _ [] (fun _ _=>false)
  (cc := sub (cd Tryz.f161) [1, 1, 1, 1, 0, 1, 0, 0, 1, 1, 0, 0, 1, 1, 1, 0, 1, 0]) (gi := 35) (p1 := 36) (d := 10) (id := 11) (ty := 33) (pos := "outcome.go:71") (body := sub (cd Tryz.f161) [1, 1, 1, 1, 0, 1, 0, 0, 1, 1, 0, 0, 1, 1, 1, 0, 1, 0, 1]) (by kernel_rfl)
  rfl (fun _=>rfl) (g := .fn 182 [] [.rp [aF o] 0]) (by rfl) (aHj o (by omega)) (fun args w=>rfl) (fun _=>rfl) (fun pre => ?_) (fun _ _=>rfl) (fun _ _=>rfl) rfl rfl (fun _=>by show 4<5;omega) (by kernel_rfl) (fun x=>rfl) (by show 3≤3;omega) rfl (by kernel_rfl) (fun pre l=>by kernel_rfl) (fun _ _ h=>by cases h) (gR:=⟨[],[],[],[]⟩) (fun pre l hpl hx=>⟨fun _ => ?_,fun h=>by cases h⟩)).1 (fun _ _ _=>rfl)
 ·show (kC (al.map hpE).flatten && (kC [] && (kC ((pre.map (chM dl dc y0 y1)).map chE).flatten && true)))=true
  rw [tL bRm,tL aXa];rfl
 ·have:=bFf (dl:=dl) (y0:=y0) (sk:=sk) hd (al:=al) (i:=i) hs (o:=o) (l:=pre.map (chM dl dc y0 y1)) (by rw [eR];omega) hx
  rw [gJ];exact this
end
section
theorem bZh{dl:Int}{sk dc:Lqq}(hd:bZ dc){bib tm n:Int}(hn:n∈aN dl dc):aRs dl sk dc bib tm n (tZ dc n != bib):=fun base=>by
 unfold aN at hn
 obtain ⟨x,hx,rfl⟩:=kQ9.1 hn;have hx:=(nA.1 hx).1;have hr:=eX hd hx;have hs:tZ dc (dN x)=lJ dc x:=by unfold tZ;rw [aBb hd hx]
 rw [hs];obtain ⟨h1,h2⟩:=aSf hd hx;have hk:=wP hd (n:=dN x) (by unfold inR;omega)
 have hab:=mS hd x hx;obtain ⟨a,b,c,d,e,f,rfl⟩:=len6 (hd.ud x hx);have hf:inR f:=by
  have:=(kF.1 (hd.rng _ hx));unfold inR;simp [dAb] at this hab ⊢;omega
 exact bTt hk h1 h2 (fun base=>bIz hd hf (.inl hx) hr.2) rfl
theorem bLe(dl:Int)(dc:Lqq)(b:Int):(jK dl dc b).length≤(aN dl dc).length:=tR _ _
theorem bRl{dl:Int}{sk dc:Lqq}(hd:bZ dc)(hu:uni 2 sk)(hl:sk.length≤1000)(hs:∀ s∈sk,-1≤s.getD 1 0∧s.getD 1 0≤360000)(ho:(aN dl dc).length≤8) :
  aH Tp 0 (sub (cd Tryz.f161) [1,1,1,1,0,1,0,0]) (oP dl sk dc 0 [] 0) (.exit 0) (oP dl sk dc (aE dl sk dc).length ((aE dl sk dc).map hpE).flatten sk.length):=by
 obtain ⟨acc,hI,hL⟩:=aH.ex (P:=Tp) (k:=0) (b:=sub (cd Tryz.f161) [1,1,1,1,0,1,0,0]) (e := .exit 0) (fun i (al:List eM)=>oP dl sk dc al.length (al.map hpE).flatten i) (fun al=>oP dl sk dc al.length (al.map hpE).flatten sk.length) (fun i al=>al=aE dl (sk.take i) dc) (by simp) sk.length
  (fun i al hi hal=>by
   obtain ⟨x,hx⟩:∃ x,sk[i]? = some x:=⟨_,kQ0 hi⟩;have hm:=kQ5 hx;have hsx:=hs x hm;obtain ⟨y0,y1,rfl⟩:=len2 (hu x hm);have hlen:al.length=i:=by rw [hal];unfold aE;rw [eR,mY];omega
   refine ⟨al++[gM dl dc y0 y1 (jK dl dc y0)],?_,bFh (o102:=jK dl dc y0) (by omega) hx hu (by omega) (bTs (by omega) fun n hn=>bZh hd hn) (bFg hd hsx (fT (bLe dl dc y0) ho)) ⟨rfl,by omega⟩ (aO (by omega)) (by simp) (by simp only [gJ,gZ,List.map_nil,bHo,wN,List.flatten_nil,List.append_nil];rfl) rfl⟩
   rw [hal];unfold aE;rw [List.take_add_one,hx];simp)
  (fun al _=>bFi (by omega)) (acc:=[]) (by simp [aE])
 rw [List.take_length] at hI
 rw [← hI];exact hL
theorem bZi{dl:Int}{sk dc:Lqq}(hd:bZ dc)(hu:uni 2 sk)(hl:sk.length≤1000)(hs:∀ s∈sk,-1≤s.getD 1 0∧s.getD 1 0≤360000)(ho:(aN dl dc).length≤8){base:Nat} :
  FV Tp 161 [pG dl sk dc] base (.tup [.own base,.p (aB 0)]) [(base,.row 195 (aE dl sk dc).length ((aE dl sk dc).map hpE).flatten)]:=bZl hd (by omega) (bRl hd hu hl hs ho)
theorem bLf{dl:Int}{sk dc:Lqq}(hd:bZ dc)(ho:8<(aN dl dc).length){base:Nat} :
  FV Tp 161 [pG dl sk dc] base (.tup [.p dR,.p (aB 10)]) []:=bZk hd (by omega)
end
end KV
end Go.Proofs
section
namespace Go.Proofs
open Go.Shelf
def Tryz.lays189_ren:Go.Shelf.Ren:=⟨fun | 189=>57 | 125=>131 | 257=>130 | 128=>180 | 129=>181 | 294=>171 | 295=>172 | 296=>173 | 297=>174 | 298=>175 | 299=>176 | 216=>177 | 300=>178 | 301=>179 | 328=>207 | 329=>208 | 330=>209 | 331=>210 | 332=>211 | 215=>168 | 343=>224 | n=>n,fun | 28=>33 | 3=>3 | 46=>172 | 0=>0 | 51=>127 | 53=>225 | 4=>4 | 183=>218 | 182=>217 | 131=>106 | 5=>5 | 9=>9 | 218=>245 | 222=>249 | 228=>257 | 229=>198 | n=>n,fun | n=>n⟩
theorem Tryz.lays189:Go.Proofs.Lays.n189 Tryz.prog Tryz.lays189_ren:={
 mixed:=by kernel_rfl
 f125:=Tryz.func131.trans (congrArg some (by kernel_rfl))
 f128:=Tryz.func180.trans (congrArg some (by kernel_rfl))
 f129:=Tryz.func181.trans (congrArg some (by kernel_rfl))
 f189:=Tryz.func57.trans (congrArg some (by kernel_rfl))
 f215:=Tryz.func168.trans (congrArg some (by kernel_rfl))
 f216:=Tryz.func177.trans (congrArg some (by kernel_rfl))
 f257:=Tryz.func130.trans (congrArg some (by kernel_rfl))
 f294:=Tryz.func171.trans (congrArg some (by kernel_rfl))
 f295:=Tryz.func172.trans (congrArg some (by kernel_rfl))
 f296:=Tryz.func173.trans (congrArg some (by kernel_rfl))
 f297:=Tryz.func174.trans (congrArg some (by kernel_rfl))
 f298:=Tryz.func175.trans (congrArg some (by kernel_rfl))
 f299:=Tryz.func176.trans (congrArg some (by kernel_rfl))
 f300:=Tryz.func178.trans (congrArg some (by kernel_rfl))
 f301:=Tryz.func179.trans (congrArg some (by kernel_rfl))
 f328:=Tryz.func207.trans (congrArg some (by kernel_rfl))
 f329:=Tryz.func208.trans (congrArg some (by kernel_rfl))
 f330:=Tryz.func209.trans (congrArg some (by kernel_rfl))
 f331:=Tryz.func210.trans (congrArg some (by kernel_rfl))
 f332:=Tryz.func211.trans (congrArg some (by kernel_rfl))
 f343:=Tryz.func224.trans (congrArg some (by kernel_rfl))
 t0:=Tryz.underlying0
 a0:=Tryz.isAgg0
 z0:=Tryz.sizeOf0
 v0:=Tryz.zeroValue0
 t3:=Tryz.underlying3
 a3:=Tryz.isAgg3
 z3:=Tryz.sizeOf3
 v3:=Tryz.zeroValue3
 t4:=Tryz.underlying4
 a4:=Tryz.isAgg4
 z4:=Tryz.sizeOf4
 v4:=Tryz.zeroValue4
 t5:=Tryz.underlying5
 a5:=Tryz.isAgg5
 z5:=Tryz.sizeOf5
 v5:=Tryz.zeroValue5
 t9:=Tryz.underlying9
 a9:=Tryz.isAgg9
 z9:=Tryz.sizeOf9
 v9:=Tryz.zeroValue9
 t28:=Tryz.underlying33
 a28:=Tryz.isAgg33
 z28:=Tryz.sizeOf33
 v28:=Tryz.zeroValue33
 t46:=Tryz.underlying172
 a46:=Tryz.isAgg172
 z46:=Tryz.sizeOf172
 v46:=Tryz.zeroValue172
 t51:=Tryz.underlying127
 a51:=Tryz.isAgg127
 z51:=Tryz.sizeOf127
 v51:=Tryz.zeroValue127
 t53:=Tryz.underlying225
 a53:=Tryz.isAgg225
 z53:=Tryz.sizeOf225
 v53:=Tryz.zeroValue225
 t131:=Tryz.underlying106
 a131:=Tryz.isAgg106
 z131:=Tryz.sizeOf106
 v131:=Tryz.zeroValue106
 t182:=Tryz.underlying217
 a182:=Tryz.isAgg217
 z182:=Tryz.sizeOf217
 v182:=Tryz.zeroValue217
 t183:=Tryz.underlying218
 a183:=Tryz.isAgg218
 z183:=Tryz.sizeOf218
 v183:=Tryz.zeroValue218
 t218:=Tryz.underlying245
 a218:=Tryz.isAgg245
 z218:=Tryz.sizeOf245
 v218:=Tryz.zeroValue245
 t222:=Tryz.underlying249
 a222:=Tryz.isAgg249
 z222:=Tryz.sizeOf249
 v222:=Tryz.zeroValue249
 t228:=Tryz.underlying257
 a228:=Tryz.isAgg257
 z228:=Tryz.sizeOf257
 v228:=Tryz.zeroValue257
 t229:=Tryz.underlying198
 a229:=Tryz.isAgg198
 z229:=Tryz.sizeOf198
 v229:=Tryz.zeroValue198 }
open Go.Sort Go.RowKit in
theorem Tryz.slices_Sort_int(blk off cap:Nat)(zs:List Int)(w:World)(hH:Holds (Value.int .i64) w blk off zs.toArray)(hblk:blk<w.heap.size)(hsz:zs.length<4611686018427387904) :
  Calls Tryz.prog 57 #[.slice (some ⟨blk,off,none⟩) zs.length cap] w fun e w' =>
   e = .returned (.tuple #[])∧∃ n os,w'=grow (putRow (Value.int .i64) (Sort.ahead w n) blk off (zs.mergeSort fun x y=>decide (x≤y)).toArray) os:=Any.slices_Sort_int Tryz.lays189 blk off cap zs w hH hblk hsz
def Tryz.laysNm220_ren:Go.Shelf.Ren:=⟨fun | 20=>186 | n=>n,fun | 22=>33 | 3=>3 | 4=>4 | 0=>0 | n=>n,fun | n=>n⟩
theorem Tryz.laysNm220:Go.Proofs.Lays2.n20 Tryz.prog Tryz.laysNm220_ren:={
 mixed:=by kernel_rfl
 f20:=Tryz.func186.trans (congrArg some (by kernel_rfl))
 t0:=Tryz.underlying0
 a0:=Tryz.isAgg0
 z0:=Tryz.sizeOf0
 v0:=Tryz.zeroValue0
 t3:=Tryz.underlying3
 a3:=Tryz.isAgg3
 z3:=Tryz.sizeOf3
 v3:=Tryz.zeroValue3
 t4:=Tryz.underlying4
 a4:=Tryz.isAgg4
 z4:=Tryz.sizeOf4
 v4:=Tryz.zeroValue4
 t22:=Tryz.underlying33
 a22:=Tryz.isAgg33
 z22:=Tryz.sizeOf33
 v22:=Tryz.zeroValue33
 i3:=by kernel_rfl }
open Go.RowKit Go.Lib Go.Sort in
theorem Tryz.slices_Compact_int(blk off cap:Nat)(zs:List Int)(w:World)(hH:Holds (Value.int .i64) w blk off zs.toArray)(hsz:zs.length≤9223372036854775807)(hcap:zs.length≤cap) :
  Calls Tryz.prog 186 #[.slice (some ⟨blk,off,none⟩) zs.length cap] w fun e w'=>e = .returned (.slice (some ⟨blk,off,none⟩) (Lib.compact zs).length cap)∧∃ q,w'=putRow (Value.int .i64) (Sort.ahead w q) blk off (Lib.compact zs++List.replicate (zs.length-(Lib.compact zs).length) 0).toArray:=Any.slices_Compact_int Tryz.laysNm220 blk off cap zs w hH hsz hcap
open Go.RowKit Go.Lib Go.Sort in
theorem Tryz.slices_Compact_int_empty(a:Option Addr)(cap:Nat)(w:World) :
  Calls Tryz.prog 186 #[.slice a 0 cap] w fun e w'=>e = .returned (.slice a 0 cap)∧w'=w:=Any.slices_Compact_int_empty Tryz.laysNm220 a cap w
theorem Tryz.slices_Sort_int_none(p:Option Addr)(cap:Nat)(w:World) :
  Calls Tryz.prog 57 #[.slice p 0 cap] w fun e w'=>e = .returned (.tuple #[])∧w'=w:=Any.slices_Sort_int_none Tryz.lays189 p cap w
end Go.Proofs
end
section
namespace Go.Proofs
open Go.RowKit Go.Lib Go.Sort
namespace KL
def OwnI(w:World)(base:Nat)(v:Value)(l:List Int):Prop:=w.ownsRow base 3 1 v l.length (l.map (Value.int .i64))

def leB:Int→Int→Bool:=fun x y=>decide (x≤y)

theorem bLi(base:Nat)(v:Value)(l:List Int)(w:World)(hv:OwnI w base v l)(hlen:l.length≤1000000) :
  Calls Tryz.prog 57 #[v] w fun e w'=>e = .returned (.tuple #[])∧OwnI w' base v (l.mergeSort leB)∧w.grownBy w' v.ownBlock:=by
 have hown:=hv
 rcases hv.2 with ⟨rfl,h0⟩ | ⟨g,cap,cur,rfl,hb,hg,hn,hm,hs,ht⟩
 ·have:l=[]:=List.eq_nil_of_length_eq_zero h0
  subst this;refine (Tryz.slices_Sort_int_none none 0 w).mono ?_;rintro e w' ⟨rfl,rfl⟩;exact ⟨rfl,by simpa using hown,World.grownBy.refl _ _⟩
 ·have hlt:=lt_of_block hg
  refine (Tryz.slices_Sort_int g 0 cap l w (holds_of_blockI hg (by simpa using ht)) hlt (by omega)).mono ?_
  rintro e w' ⟨rfl,n,os,rfl⟩;refine ⟨rfl,?_,grownBy_sortedI _⟩;have hl:(l.mergeSort leB).length=l.length:=List.length_mergeSort l;unfold OwnI;rw [hl];exact ownsRow_sortedI hl hb hg hn hm hs

end KL
open KL
namespace KV
open Go.Shelf
variable {P:Program} {C:Cx} {M:Mem} {w w':World}
abbrev qP(l:List Int):AO := .row 3 l.length (l.map aB)
theorem bLj{F:Nat→Prop}{cur:Array Value}{l:List Int}(hle:l.length≤cur.size)(h:∀ j (hj:j<(l.map aB).length),cN F w (l.map aB)[j] (cur.getD j undef)):cur.toList.take l.length=l.map (Value.int .i64):=by
 apply List.ext_getElem
 ·simp;omega
 ·intro i h1 h2
  have hi:i<l.length:=by simpa using h2
  have:=h i (by simpa using hi)
  rw [List.getElem_map] at this
  rw [List.getElem_map,List.getElem_take];cases hx:cur.getD i undef with
  | int k z =>
   rw [hx] at this
   cases this;rw [Array.getD_eq_getD_getElem?,Array.getElem?_eq_getElem (by omega)] at hx
   simpa using hx
  | _=>rw [hx] at this;cases this
theorem aOt(F:Nat→Prop){cur:Array Value}{l:List Int}(h:cur.toList.take l.length=l.map (Value.int .i64)):(∀ j (hj:j<(l.map aB).length),cN F w (l.map aB)[j] (cur.getD j undef))∧∀ j,j<(l.map aB).length→(cur.getD j undef).oneCell'=true:=by
 have key:∀ j (hj:j<l.length),cur.getD j undef = .int .i64 l[j]:=fun j hj=>by
  have h1:=congrArg (fun x=>x[j]?) h
  simp only [List.getElem?_take,hj,if_true,List.getElem?_map,List.getElem?_eq_getElem hj,Option.map_some,Array.getElem?_toList] at h1
  rw [Array.getD_eq_getD_getElem?,h1];rfl
 refine ⟨fun j hj => ?_,fun j hj => ?_⟩
 ·have hj':j<l.length:=by simpa using hj
  rw [List.getElem_map,key j hj'];exact .v _
 ·rw [key j (by simpa using hj)];rfl

theorem size3:∃ i,Tryz.prog.info? 3=some i∧i.size=1:=tI (show (Tryz.prog.info? 3).map (fun i=>i.size)=some 1 by kernel_rfl)
theorem bLk{id:Nat}{l:List Int}{u:Value}(hM:aR Tryz.prog C M w)(ho:M[id]? = some (some (qP l)))(h:Rep C M w (.own id) u):OwnI w 0 u l:=by
 refine ⟨by simp,?_⟩
 cases h with
 | own _ _ h0 ha hr =>
  rcases hr _ _ _ ho with ⟨rfl,_,hn⟩ | ⟨b,rfl,hb⟩
  ·exact .inl ⟨rfl,hn⟩
  ·rcases hM.row _ _ _ _ ho with ⟨hn',_⟩ | ⟨b',arr,inf,hb',q1,q2,q3,q4,q5,q6,q7,q8⟩
   ·rw [hb] at hn';cases hn'
   ·rw [hb] at hb';cases hb'
    obtain ⟨i,hi,hs⟩:=size3;rw [hi] at q2;cases q2
    exact .inr ⟨b,_,arr,rfl,Nat.zero_le _,q1,q5,q6,by rw [q3,hs],by rw [Nat.mul_one];exact bLj (by rw [q3,hs];omega) q7⟩

theorem aIb{l l':List Int}{u u':Value}{d:Bool}(hM:aR Tryz.prog C [some (qP l)] w)(h:Rep C [some (qP l)] w (.own 0) u)(hown:OwnI w' 0 u' l')(hg:w.grownBy w' u.ownBlock)
  (hb:u'.ownBlock=u.ownBlock) (hd:d=false→u'=u∧l'.length=l.length) :
  ∃ C',Fr C [some (qP l)] w C' (if d then [some .dead,some (qP l')] else [some (qP l')]) w'∧aR Tryz.prog C' (if d then [some .dead,some (qP l')] else [some (qP l')]) w'∧Rep C' (if d then [some .dead,some (qP l')] else [some (qP l')]) w' (.own (if d then 1 else 0)) u':=by
 have at0:∀ (id:Nat) (o:AO),([some (qP l)]:Mem)[id]? = some (some o)→id=0∧o=qP l:=fun id o h=>by
  cases id with
  | zero=>simp at h;exact ⟨rfl,h.symm⟩
  | succ i=>simp at h
 have hblk:∀ b,C.ι 0=some b→u.ownBlock=some b∧∃ cap,u = .slice (some ⟨b,0,none⟩) l.length cap∧cap=C.κ 0:=fun b hb0=>by
  cases h with
  | own _ _ h0 ha hr =>
   rcases hr _ _ _ rfl with ⟨_,hn,_⟩ | ⟨b',rfl,hb'⟩
   ·rw [hb0] at hn;cases hn
   ·rw [hb0] at hb';cases hb';exact ⟨rfl,_,rfl,rfl⟩
 have hnb:C.ι 0=none→u = .slice none 0 0:=fun hn=>by
  cases h with
  | own _ _ h0 ha hr =>
   rcases hr _ _ _ rfl with ⟨hu,_,_⟩ | ⟨b',rfl,hb'⟩
   ·exact hu
   ·rw [hn] at hb';cases hb'
 have hkeep:∀ b,b<w.heap.size→(∀ (id:Nat) (o:AO),([some (qP l)]:Mem)[id]? = some (some o)→o.live=true→C.ι id≠some b)→w'.heap[b]? = w.heap[b]? := fun b hb1 hn=>by
  refine hg.block b hb1 fun he => ?_
  cases hι:C.ι 0 with
  | none=>rw [hnb hι] at he;cases he
  | some b' =>
   rw [(hblk b' hι).1] at he;cases he
   exact hn 0 _ rfl rfl hι
 have hFz:∀ b,C.F b→w'.heap[b]? = w.heap[b]? := fun b hf=>hkeep b (hM.Fs b hf) fun id o hm hl he=>hM.nF id o b hm hl he hf
 cases d with
 | false =>
  obtain ⟨rfl,hlen⟩:=hd rfl;simp only [Bool.false_eq_true,if_false];have at1:∀ (id:Nat) (o:AO),([some (qP l')]:Mem)[id]? = some (some o)→id=0∧o=qP l':=fun id o h=>by
   cases id with
   | zero=>simp at h;exact ⟨rfl,h.symm⟩
   | succ i=>simp at h
  have hblk':∀ b,C.ι 0=some b→∃ cur,w'.heap[b]? = some (.cells cur 3 (0,0))∧l'.length≤C.κ 0∧C.κ 0≤maxLen∧cur.size=C.κ 0∧cur.toList.take l'.length=l'.map (Value.int .i64):=fun b hι=>by
   obtain ⟨_,cap,hu,hc⟩:=hblk b hι
   rcases hown.2 with ⟨he,_⟩ | ⟨g,cap',cur,hv,_,hh,r1,r2,r3,r4⟩
   ·rw [hu] at he;cases he
   ·rw [hu] at hv
    obtain ⟨e1,_,e3⟩:=Value.slice.inj hv;cases e1;subst e3;subst hc;exact ⟨cur,hh,r1,r2,by omega,by simpa using r4⟩
  refine ⟨C,⟨hg.os,hg.tape,hg.output,hg.size,hkeep,fun id o hm => ?_,fun id o hm ty n cs hx => ?_,fun id o hm o' hx hl => ?_,fun id o b hm hl hb => ?_,fun _ h=>h,fun _ h => .inl h⟩,
   ⟨fun id ty n cs hm => ?_,fun id ty cs hm => ?_,fun id es cl hm => ?_,fun id id' o o' b h1 _ h2 _ _ _ => ?_,fun id o b hm hl hb => ?_,fun b hb=>Nat.lt_of_lt_of_le (hM.Fs b hb) hg.size,fun id o b hm hl hb => ?_⟩,?_⟩
  ·obtain ⟨rfl,rfl⟩:=at0 id o hm
   exact ⟨⟨_,rfl⟩,rfl,rfl⟩
  ·obtain ⟨rfl,rfl⟩:=at0 id o hm
   obtain ⟨_,he⟩:=at1 _ _ hx;cases he;exact ⟨l.map aB,by rw [hlen];rfl⟩
  ·obtain ⟨rfl,rfl⟩:=at0 id o hm
   rfl
  ·obtain ⟨rfl,rfl⟩:=at1 id o hm
   exact .inr ⟨0,_,rfl,rfl,hb⟩
  ·obtain ⟨rfl,he⟩:=at1 id _ hm
   cases he;cases hι:C.ι 0 with
   | none =>
    have:=hnb hι
    rcases hown.2 with ⟨_,h0⟩ | ⟨g,cap',cur,hv,_⟩
    ·have:l'=[]:=List.eq_nil_of_length_eq_zero h0
     subst this;exact .inl ⟨rfl,rfl,rfl⟩
    ·rw [this] at hv;cases hv
   | some b =>
    obtain ⟨cur,q1,q2,q3,q4,q5⟩:=hblk' b hι;obtain ⟨i,hi,hs⟩:=size3;obtain ⟨r1,r2⟩:=aOt (w:=w') C.F q5;exact .inr ⟨b,cur,i,rfl,q1,hi,by rw [hs,q4,Nat.mul_one],by simp [hs],q2,q3,r1,r2⟩
  ·obtain ⟨_,he⟩:=at1 id _ hm;cases he
  ·obtain ⟨_,he⟩:=at1 id _ hm;cases he
  ·obtain ⟨rfl,_⟩:=at1 id _ h1
   obtain ⟨rfl,_⟩:=at1 id' _ h2;rfl
  ·obtain ⟨rfl,_⟩:=at1 id _ hm
   exact hM.nF 0 _ b rfl rfl hb
  ·obtain ⟨rfl,_⟩:=at1 id _ hm
   exact Nat.lt_of_lt_of_le (hM.lt 0 _ b rfl rfl hb) hg.size
  ·cases h with
   | own _ _ h0 ha hr =>
    refine .own 0 _ h0 ⟨_,rfl⟩ fun ty n cs hx => ?_
    obtain ⟨_,he⟩:=at1 0 _ hx;cases he
    rcases hr _ _ _ rfl with ⟨q1,q2,q3⟩ | ⟨b,q1,q2⟩
    ·exact .inl ⟨q1,q2,by omega⟩
    ·exact .inr ⟨b,by rw [q1,hlen],q2⟩
 | true =>
  simp only [if_true]
  let cap':Nat:=match u' with | .slice _ _ c=>c | _=>0
  have at1:∀ (id:Nat) (o:AO),([some .dead,some (qP l')]:Mem)[id]? = some (some o)→(id=0∧o = .dead)∨(id=1∧o=qP l'):=fun id o h=>by
   match id,h with
   | 0,h=>simp at h;exact .inl ⟨rfl,h.symm⟩
   | 1,h=>simp at h;exact .inr ⟨rfl,h.symm⟩
   | i+2,h=>simp at h
  refine ⟨{ ι:=fun i=>if i=1 then u'.ownBlock else C.ι i,κ:=fun i=>if i=1 then cap' else C.κ i,F:=C.F },⟨hg.os,hg.tape,hg.output,hg.size,hkeep,fun id o hm => ?_,fun id o hm ty n cs hx => ?_,fun id o hm o' hx hl => ?_,fun id o b hm hl hbb => ?_,fun _ h=>h,fun _ h => .inl h⟩,
   ⟨fun id ty n cs hm => ?_,fun id ty cs hm => ?_,fun id es cl hm => ?_,fun id id' o o' b h1 l1 h2 l2 _ _ => ?_,fun id o b hm hl hbb => ?_,fun b hb=>Nat.lt_of_lt_of_le (hM.Fs b hb) hg.size,fun id o b hm hl hbb => ?_⟩,?_⟩
  ·obtain ⟨rfl,rfl⟩:=at0 id o hm
   exact ⟨⟨_,rfl⟩,rfl,rfl⟩
  ·obtain ⟨rfl,rfl⟩:=at0 id o hm
   rcases at1 _ _ hx with ⟨_,he⟩ | ⟨he,_⟩
   ·cases he
   ·cases he
  ·obtain ⟨rfl,rfl⟩:=at0 id o hm
   rfl
  ·rcases at1 id o hm with ⟨rfl,rfl⟩ | ⟨rfl,rfl⟩
   ·cases hl
   ·simp only [if_true] at hbb
    rw [hb] at hbb
    cases hι:C.ι 0 with
    | none=>rw [hnb hι] at hbb;cases hbb
    | some b' =>
     rw [(hblk b' hι).1] at hbb;cases hbb
     exact .inr ⟨0,_,rfl,rfl,hι⟩
  ·rcases at1 id _ hm with ⟨_,he⟩ | ⟨rfl,he⟩
   ·cases he
   ·cases he
    simp only [if_true]
    rcases hown.2 with ⟨rfl,h0⟩ | ⟨g,cp,cur,rfl,_,hh,r1,r2,r3,r4⟩
    ·have:l'=[]:=List.eq_nil_of_length_eq_zero h0
     subst this;exact .inl ⟨rfl,rfl,rfl⟩
    ·obtain ⟨i,hi,hs⟩:=size3
     obtain ⟨q1,q2⟩:=aOt (w:=w') C.F (by simpa using r4)
     exact .inr ⟨g,cur,i,rfl,hh,hi,by rw [hs];exact r3,by simp [hs],r1,r2,q1,q2⟩
  ·rcases at1 id _ hm with ⟨_,he⟩ | ⟨_,he⟩ <;> cases he
  ·rcases at1 id _ hm with ⟨_,he⟩ | ⟨_,he⟩ <;> cases he
  ·rcases at1 id _ h1 with ⟨_,rfl⟩ | ⟨rfl,_⟩
   ·cases l1
   ·rcases at1 id' _ h2 with ⟨_,rfl⟩ | ⟨rfl,_⟩
    ·cases l2
    ·rfl
  ·rcases at1 id _ hm with ⟨_,rfl⟩ | ⟨rfl,_⟩
   ·cases hl
   ·simp only [if_true] at hbb
    rw [hb] at hbb
    cases hι:C.ι 0 with
    | none=>rw [hnb hι] at hbb;cases hbb
    | some b' =>
     rw [(hblk b' hι).1] at hbb;cases hbb
     exact hM.nF 0 _ _ rfl rfl hι
  ·rcases at1 id _ hm with ⟨_,rfl⟩ | ⟨rfl,_⟩
   ·cases hl
   ·simp only [if_true] at hbb
    rw [hb] at hbb
    cases hι:C.ι 0 with
    | none=>rw [hnb hι] at hbb;cases hbb
    | some b' =>
     rw [(hblk b' hι).1] at hbb;cases hbb
     exact Nat.lt_of_lt_of_le (hM.lt 0 _ _ rfl rfl hι) hg.size
  ·have h0:u'.oneCell'=true:=by
    rcases hown.2 with ⟨rfl,_⟩ | ⟨g,cp,cur,rfl,_⟩ <;> rfl
   refine .own 1 _ h0 ⟨_,rfl⟩ fun ty n cs hx => ?_
   rcases at1 _ _ hx with ⟨he,_⟩ | ⟨_,he⟩
   ·cases he
   ·cases he
    simp only [if_true]
    rcases hown.2 with ⟨rfl,h9⟩ | ⟨g,cp,cur,rfl,_⟩
    ·exact .inl ⟨rfl,rfl,h9⟩
    ·exact .inr ⟨g,rfl,rfl⟩

theorem aOu(l:List Int)(hl:l.length≤1000000):FMM Tryz.prog 57 [.own 0] [some (qP l)] (.tup []) [some (qP (l.mergeSort leB))]:=fun C w us hus hM n=>by
 obtain ⟨u,rfl,hu⟩:=wY hus;refine (callsIn_wide.2 (bLi 0 u l w (bLk hM rfl hu) hl)).mono ?_;rintro e w' ⟨rfl,h1,h2⟩;obtain ⟨C',f,m,_⟩:=aIb (d:=false) hM hu h1 h2 rfl (fun _=>⟨rfl,List.length_mergeSort l⟩)
 exact ⟨_,rfl,C',f,m,.tup [] #[] rfl (fun i h=>by simp at h)⟩
theorem aEq(l:List Int):(Lib.compact l).length≤l.length:=by
 unfold Lib.compact Lib.compactUpTo;rw [List.length_map];exact Nat.le_trans (List.length_filter_le _ _) (by simp)
theorem aOv(base:Nat)(v:Value)(l:List Int)(w:World)(hv:KL.OwnI w base v l)(hlen:l.length≤1000000) :
  Calls Tryz.prog 186 #[v] w fun e w'=>∃ p' n' cap',e = .returned (.slice p' n' cap')∧n'=(Lib.compact l).length∧KL.OwnI w' base (.slice p' n' cap') (Lib.compact l)∧w.grownBy w' v.ownBlock∧((Value.slice p' n' cap').ownBlock=v.ownBlock):=by
 have hown:=hv
 rcases hv.2 with ⟨rfl,h0⟩ | ⟨b,cap,cur,rfl,hb,hg,hn,hm,hs,ht⟩
 ·have:l=[]:=List.eq_nil_of_length_eq_zero h0
  subst this;refine (Tryz.slices_Compact_int_empty none 0 w).mono ?_;rintro e w' ⟨rfl,rfl⟩;exact ⟨_,_,_,rfl,rfl,hown,World.grownBy.refl _ _,rfl⟩
 ·refine (Tryz.slices_Compact_int b 0 cap l w (holds_of_blockI hg (by simpa using ht)) (by omega) (by simpa using hn)).mono ?_
  rintro e w' ⟨rfl,q,rfl⟩;have hfl:=aEq l;refine ⟨_,_,_,rfl,rfl,?_,?_,rfl⟩
  ·have:=ownsRow_putRow (enc:=Value.int .i64) (q:=q) (k:=(Lib.compact l).length) (ys:=Lib.compact l++List.replicate (l.length-(Lib.compact l).length) 0) hown (by simp;omega) hfl
   unfold KL.OwnI;simpa using this
  ·exact grownBy_sortedI (os := #[]) (n:=q) (g:=b) (w:=w) ((Lib.compact l++List.replicate (l.length-(Lib.compact l).length) 0).toArray)
theorem aOw(l:List Int)(hl:l.length≤1000000):FMM Tryz.prog 186 [.own 0] [some (.row 3 l.length (l.map aB))] (.own 1) [some .dead,some (.row 3 (Lib.compact l).length ((Lib.compact l).map aB))]:=fun C w us hus hM n=>by
 obtain ⟨u,rfl,hu⟩:=wY hus;refine (callsIn_wide.2 (aOv 0 u l w (bLk hM rfl hu) hl)).mono ?_;rintro e w' ⟨p',n',cap',rfl,h0,h1,h2,h3⟩;obtain ⟨C',f,m,r⟩:=aIb (d:=true) hM hu h1 h2 h3 (fun h=>by cases h)
 exact ⟨_,rfl,C',f,m,r⟩
end KV
end Go.Proofs
end
namespace Go.Proofs
namespace KV
section
variable {ou inn b101:Bool}{t t100 mn101 mx102:Int}{o o' q102:List Int}{i n s i' few base few' many many':Nat}

noncomputable abbrev sL:Code:=sub (cd Tryz.f142) [1,1,0,1,0,0]
noncomputable abbrev yS:Code:=sub (cd Tryz.f141) [1,0,1,0,0]
noncomputable abbrev yT:Code:=sub (cd Tryz.f141) [1,0,1,0,0,1,1,0,0,1,1,1,1,1,0,0]
theorem aKs:0≤(0:Int)∧(0:Int)<2:=by first | decide | simp
theorem aKt:0≤(1:Int)∧(1:Int)<2:=by first | decide | simp
def iW(al:List eM)(s:Nat)(t:Int)(few:Nat)(many:Nat)(i:Nat):St:=⟨fr 39 [(1,(pI (s:Int))),(2,(pI t)),(6,(pI 0)),(7,(pI 0)),(8,(pI (few:Int))),(9,(pI (many:Int))),(12,(.p (.sl al.length ((al.map hpE).flatten)))),(13,(pI (al.length:Int))),(14,(pI (i:Int)))],[]⟩
theorem bZe{al:List eM}{few'0 many'1 i'2:Nat}(hl0:aH Tp 0 sL (iW al s t 0 0 0) (.exit 0) (iW al s t few'0 many'1 i'2)):FV Tp 142 [(.p (.sl al.length ((al.map hpE).flatten))),(pI (s:Int)),(pI t)] base (.tup [(pI (few'0:Int)),(pI (many'1:Int))]) []:=by
 exact FV.fi Tryz.func142 [hl0.k 8 ⟨(rng [(0,1),(3,3),(10,2),(15,22)]),[],[],[]⟩] (gc hl0.code gn)
theorem bEu{al:List eM}{c100:List aS}(h0:(i:Int)<(al.length:Int))(h1:al[i]? = some (c100,mn101,mx102))(h2:(i:Int)=(s:Int))(h3:inR (((i+1):Nat):Int))(ei':i'=(i+1)):aC Tp 0 sL (iW al s t few many i) .normal (iW al s t few many i'):=by
 subst ei';exact aC.fi ⟨(rng [(0,1),(3,3),(10,2),(15,22)]),[],[],[]⟩ [bT,.x (.agg [(.sl c100.length ((c100.map chE).flatten)),(aB mn101),(aB mx102)]),bT] (gc h3 (gc (dX h2) (gc (cV (E:=hpE) (i:=i) (k:=3) (fun _=>rfl) h1 rfl) (gc (fA (E:=hpE) (i:=i) (k:=3) (fun _=>rfl) h1) (gc (cW (E:=hpE) (k:=3) (i:=(i:Int)) (fun _=>rfl) (by decide) (kQ1 _) h1) (gc (aV h0) gn))))))
theorem bEv{al:List eM}{c100:List aS}(h0:(i:Int)<(al.length:Int))(h1:al[i]? = some (c100,mn101,mx102))(h2:(i:Int)≠(s:Int))(h3:mx102<t)(h4:inR (((few+1):Nat):Int))(h5:mn101<t)(h6:inR (((many+1):Nat):Int))(h7:inR (((i+1):Nat):Int))(efew':few'=(few+1))(emany':many'=(many+1))(ei':i'=(i+1)):aC Tp 0 sL (iW al s t few many i) .normal (iW al s t few' many' i'):=by
 subst efew' emany' ei';exact aC.fi ⟨(rng [(0,1),(3,3),(10,2),(15,22)]),[],[],[]⟩ [bT,.x (.agg [(.sl c100.length ((c100.map chE).flatten)),(aB mn101),(aB mx102)]),bF,bT,bT] (gc h7 (gc h6 (gc (aV h5) (gc aKs (gc h4 (gc (aV h3) (gc aKt (gc (bJ h2) (gc (cV (E:=hpE) (i:=i) (k:=3) (fun _=>rfl) h1 rfl) (gc (fA (E:=hpE) (i:=i) (k:=3) (fun _=>rfl) h1) (gc (cW (E:=hpE) (k:=3) (i:=(i:Int)) (fun _=>rfl) (by decide) (kQ1 _) h1) (gc (aV h0) gn))))))))))))
theorem bEw{al:List eM}{c100:List aS}(h0:(i:Int)<(al.length:Int))(h1:al[i]? = some (c100,mn101,mx102))(h2:(i:Int)≠(s:Int))(h3:mx102<t)(h4:inR (((few+1):Nat):Int))(h5:t≤mn101)(h6:inR (((i+1):Nat):Int))(efew':few'=(few+1))(ei':i'=(i+1)):aC Tp 0 sL (iW al s t few many i) .normal (iW al s t few' many i'):=by
 subst efew' ei';exact aC.fi ⟨(rng [(0,1),(3,3),(10,2),(15,22)]),[],[],[]⟩ [bT,.x (.agg [(.sl c100.length ((c100.map chE).flatten)),(aB mn101),(aB mx102)]),bF,bT,bF] (gc h6 (gc (bA h5) (gc aKs (gc h4 (gc (aV h3) (gc aKt (gc (bJ h2) (gc (cV (E:=hpE) (i:=i) (k:=3) (fun _=>rfl) h1 rfl) (gc (fA (E:=hpE) (i:=i) (k:=3) (fun _=>rfl) h1) (gc (cW (E:=hpE) (k:=3) (i:=(i:Int)) (fun _=>rfl) (by decide) (kQ1 _) h1) (gc (aV h0) gn)))))))))))
theorem bEx{al:List eM}{c100:List aS}(h0:(i:Int)<(al.length:Int))(h1:al[i]? = some (c100,mn101,mx102))(h2:(i:Int)≠(s:Int))(h3:t≤mx102)(h4:mn101<t)(h5:inR (((many+1):Nat):Int))(h6:inR (((i+1):Nat):Int))(emany':many'=(many+1))(ei':i'=(i+1)):aC Tp 0 sL (iW al s t few many i) .normal (iW al s t few many' i'):=by
 subst emany' ei';exact aC.fi ⟨(rng [(0,1),(3,3),(10,2),(15,22)]),[],[],[]⟩ [bT,.x (.agg [(.sl c100.length ((c100.map chE).flatten)),(aB mn101),(aB mx102)]),bF,bF,bT] (gc h6 (gc h5 (gc (aV h4) (gc aKs (gc (bA h3) (gc aKt (gc (bJ h2) (gc (cV (E:=hpE) (i:=i) (k:=3) (fun _=>rfl) h1 rfl) (gc (fA (E:=hpE) (i:=i) (k:=3) (fun _=>rfl) h1) (gc (cW (E:=hpE) (k:=3) (i:=(i:Int)) (fun _=>rfl) (by decide) (kQ1 _) h1) (gc (aV h0) gn)))))))))))
theorem bEy{al:List eM}{c100:List aS}(h0:(i:Int)<(al.length:Int))(h1:al[i]? = some (c100,mn101,mx102))(h2:(i:Int)≠(s:Int))(h3:t≤mx102)(h4:t≤mn101)(h5:inR (((i+1):Nat):Int))(ei':i'=(i+1)):aC Tp 0 sL (iW al s t few many i) .normal (iW al s t few many i'):=by
 subst ei';exact aC.fi ⟨(rng [(0,1),(3,3),(10,2),(15,22)]),[],[],[]⟩ [bT,.x (.agg [(.sl c100.length ((c100.map chE).flatten)),(aB mn101),(aB mx102)]),bF,bF,bF] (gc h5 (gc (bA h4) (gc aKs (gc (bA h3) (gc aKt (gc (bJ h2) (gc (cV (E:=hpE) (i:=i) (k:=3) (fun _=>rfl) h1 rfl) (gc (fA (E:=hpE) (i:=i) (k:=3) (fun _=>rfl) h1) (gc (cW (E:=hpE) (k:=3) (i:=(i:Int)) (fun _=>rfl) (by decide) (kQ1 _) h1) (gc (aV h0) gn))))))))))
theorem bEz{al:List eM}(h0:(al.length:Int)≤(i:Int)):aC Tp 0 sL (iW al s t few many i) (.exit 0) (iW al s t few many i):=by
 exact aC.fi ⟨(rng [(0,1),(3,3),(10,2),(15,22)]),[],[],[]⟩ [bF] (gc (bA h0) gn)
def dA(al:List eM)(s:Nat)(t:Int):Nat→Nat × Nat
 | 0=>(0,0)
 | i+1=>match al[i]? with
  | some h=>if i=s then dA al s t i else ((if h.2.2<t then (dA al s t i).1+1 else (dA al s t i).1),(if h.2.1<t then (dA al s t i).2+1 else (dA al s t i).2))
  | none=>dA al s t i
abbrev bM(al:List eM)(s:Nat)(t:Int):Nat × Nat:=dA al s t al.length
theorem kH(al:List eM)(s:Nat)(t:Int):∀ i,(dA al s t i).1≤i∧(dA al s t i).2≤i
 | 0=>⟨dM _,dM _⟩
 | i+1=>by
  have:=kH al s t i;unfold dA
  split
  ·split
   ·omega
   ·dsimp only
    split <;> split <;> omega
  ·omega
theorem aKu(al:List eM)(s:Nat)(t:Int)(hl:al.length≤1000){base:Nat}:FV Tp 142 [.p (.sl al.length (al.map hpE).flatten),.p (aB s),.p (aB t)] base (.tup [.p (aB ((bM al s t).1:Nat)),.p (aB ((bM al s t).2:Nat))]) []:=by
 obtain ⟨a,hI,hL⟩:=aH.ex (P:=Tp) (k:=0) (b:=sL) (e := .exit 0) (fun i (a:Nat × Nat)=>iW al s t a.1 a.2 i) (fun a=>iW al s t a.1 a.2 al.length) (fun i a=>a=dA al s t i) (by simp) al.length
  (fun i a hi ha=>by
   obtain ⟨⟨c,mn,mx⟩,hx⟩:∃ x,al[i]? = some x:=⟨_,kQ0 hi⟩;have hle:=kH al s t i;refine ⟨_,rfl,?_⟩;subst ha;have e:dA al s t (i+1)=if i=s then dA al s t i else ((if mx<t then (dA al s t i).1+1 else (dA al s t i).1),(if mn<t then (dA al s t i).2+1 else (dA al s t i).2)):=by
    conv=>lhs;unfold dA
    rw [hx]
   rw [e]
   by_cases his:i=s
   ·rw [if_pos his];exact bEu (by omega) hx (by omega) (aO (by omega)) rfl
   ·rw [if_neg his]
    by_cases h1:mx<t <;> by_cases h2:mn<t
    ·rw [if_pos h1,if_pos h2];exact bEv (by omega) hx (by omega) h1 (aO (by omega)) h2 (aO (by omega)) (aO (by omega)) rfl rfl rfl
    ·rw [if_pos h1,if_neg h2];exact bEw (by omega) hx (by omega) h1 (aO (by omega)) (by omega) (aO (by omega)) rfl rfl
    ·rw [if_neg h1,if_pos h2];exact bEx (by omega) hx (by omega) (by omega) h2 (aO (by omega)) (aO (by omega)) rfl rfl
    ·rw [if_neg h1,if_neg h2];exact bEy (by omega) hx (by omega) (by omega) (by omega) (aO (by omega)) rfl)
  (fun a _=>bEz (by omega)) (acc:=(0,0)) rfl
 subst hI;exact bZe hL
def mA(al:List eM)(s:Nat)(c0:List aS)(on:Nat)(oc:List PV)(ou:Bool)(inn:Bool)(i:Nat):St:=⟨fr 51 [(0,(.p (.sl al.length ((al.map hpE).flatten)))),(1,(pI (s:Int))),(4,(.own 0)),(5,(pB ou)),(6,(pB inn)),(16,(.p (.sl c0.length ((c0.map chE).flatten)))),(17,(pI (c0.length:Int))),(18,(pI (i:Int)))],[some (.row 3 on oc)]⟩
theorem bZf{al:List eM}{c0:List aS}{mn1 mx2:Int}{o'3:List Int}{ou'4 inn'5:Bool}{i'6:Nat}(h0:al[s]? = some (c0,mn1,mx2))(hl1:aH Tp 0 yS (mA al s c0 0 [] false false 0) (.exit 0) (mA al s c0 o'3.length (o'3.map aB) ou'4 inn'5 i'6))(h2:o'3.length≤1000000)(h3:(o'3.mergeSort KL.leB).length≤1000000):FV Tp 141 [(.p (.sl al.length ((al.map hpE).flatten))),(pI (s:Int))] base (.tup [(.p (aF (Lib.compact (o'3.mergeSort KL.leB)))),(pB ou'4),(pB inn'5)]) []:=by
 have k1:=mq [0] 1 (aOu o'3 h2);have k2:=mq [0] 1 (aOw (o'3.mergeSort KL.leB) h3);exact FV.frz (FMM.fi 0 ⟨[],[],[1],[]⟩ Tryz.func141 [.x (.sl c0.length ((c0.map chE).flatten)),hl1.k 1 ⟨(rng [(2,2),(7,9),(19,26),(46,1)]),[0],[],[(4,3),(5,0),(6,0)]⟩,k1.o,k2.o] (gc k2 (gc k1 (gc hl1.code (gt (((al.map hpE).flatten)[(s*3)]? = some (.sl c0.length ((c0.map chE).flatten))) (fQ (E:=hpE) (i:=s) (f:=0) (k:=3) (fun _=>rfl) h0 rfl) (gc (cW (E:=hpE) (k:=3) (i:=(s:Int)) (fun _=>rfl) (by decide) (kQ1 _) h0) gn)))))) (by kernel_rfl)
def mB(al:List eM)(s:Nat)(c0:List aS)(ou:Bool)(i:Nat)(t100:Int)(b101:Bool)(q102:List Int)(on:Nat)(oc:List PV)(n:Nat):St:=⟨fr 51 [(0,(.p (.sl al.length ((al.map hpE).flatten)))),(1,(pI (s:Int))),(4,(.own 0)),(5,(pB ou)),(6,(.kb true)),(8,(.ptr 1 0)),(9,(pI (((bM al s t100).1:Nat):Int))),(10,(pI (((bM al s t100).2:Nat):Int))),(11,(pI (n:Int))),(16,(.p (.sl c0.length ((c0.map chE).flatten)))),(17,(pI (c0.length:Int))),(18,(pI (i:Int))),(19,(pB (decide ((i:Int)<(c0.length:Int))))),(20,(.rp ((c0.map chE).flatten) (i*3))),(21,(.p (.agg [(aB t100),(blP b101),(aF q102)]))),(22,(.ptr 1 1)),(23,(pB b101)),(24,(.tup [(pI (((bM al s t100).1:Nat):Int)),(pI (((bM al s t100).2:Nat):Int))])),(25,(.p (.sl al.length ((al.map hpE).flatten)))),(26,(pI (s:Int))),(27,(.ptr 1 0)),(28,(pI t100)),(29,(.tup [(pI (((bM al s t100).1:Nat):Int)),(pI (((bM al s t100).2:Nat):Int))])),(30,(pI (((bM al s t100).1:Nat):Int))),(31,(pI (((bM al s t100).2:Nat):Int))),(32,(pI (((bM al s t100).1:Nat):Int))),(33,(pI ((((bM al s t100).1+1):Nat):Int)))],[some (.row 3 on oc),some (.box 197 [(pI t100),(pB b101),(.p (aF q102))])]⟩
theorem bFa{al:List eM}{c0:List aS}(h0:(i:Int)<(c0.length:Int))(h1:c0[i]? = some (t100,b101,q102))(h2:b101=true)(h3:inR (((i+1):Nat):Int))(ei':i'=(i+1)):aC Tp 0 yS (mA al s c0 o.length (o.map aB) ou inn i) .normal (mA al s c0 o.length (o.map aB) true inn i'):=by
 subst ei';exact aC.fi ⟨(rng [(2,2),(7,9),(19,26),(46,1)]),[0],[],[(5,0)]⟩ [bT,.x (.agg [(aB t100),(blP b101),(aF q102)]),bT] (gc h3 (gc h2 (gc (cV (E:=chE) (i:=i) (k:=3) (fun _=>rfl) h1 rfl) (gc (fA (E:=chE) (i:=i) (k:=3) (fun _=>rfl) h1) (gc (cW (E:=chE) (k:=3) (i:=(i:Int)) (fun _=>rfl) (by decide) (kQ1 _) h1) (gc (aV h0) gn))))))
theorem bFb{al:List eM}{c0:List aS}{o'103:List Int}{n'104:Nat}(h0:(i:Int)<(c0.length:Int))(h1:c0[i]? = some (t100,b101,q102))(h2:b101=false)(h3:al.length≤1000)(h4:inR ((((bM al s t100).1+1):Nat):Int))(hl5:aH Tp 0 yT (mB al s c0 ou i t100 b101 q102 o.length (o.map aB) ((bM al s t100).1+1)) (.exit 2) (mB al s c0 ou i t100 b101 q102 o'103.length (o'103.map aB) n'104))(h6:inR (((i+1):Nat):Int))(eo'n:o'.length=o'103.length)(eo'c:o'.map aB=(o'103.map aB))(ei':i'=(i+1)):aC Tp 0 yS (mA al s c0 o.length (o.map aB) ou inn i) .normal (mA al s c0 o'.length (o'.map aB) ou true i'):=by
 subst ei';have k1:=fk 2 (aKu al s t100 h3) rfl;have raw:aC Tp 0 yS (mA al s c0 o.length (o.map aB) ou inn i) .normal (mA al s c0 o'103.length (o'103.map aB) ou true (i+1)):=aC.fi ⟨(rng [(2,2),(7,9),(19,26),(46,1)]),[0],[],[(6,0)]⟩ [bT,.x (.agg [(aB t100),(blP b101),(aF q102)]),bF,k1.o,hl5.k 3 ⟨(rng [(2,2),(7,1),(12,4),(34,10),(46,1)]),[0,1],[],[]⟩] (gc h6 (gc hl5.code (gc h4 (gc k1 (gc h2 (gc (cV (E:=chE) (i:=i) (k:=3) (fun _=>rfl) h1 rfl) (gc (fA (E:=chE) (i:=i) (k:=3) (fun _=>rfl) h1) (gc (cW (E:=chE) (k:=3) (i:=(i:Int)) (fun _=>rfl) (by decide) (kQ1 _) h1) (gc (aV h0) gn)))))))))
 exact raw.cast (by rw [eo'n,eo'c])
theorem bFc{al:List eM}{c0:List aS}(h0:(c0.length:Int)≤(i:Int)):aC Tp 0 yS (mA al s c0 o.length (o.map aB) ou inn i) (.exit 0) (mA al s c0 o.length (o.map aB) ou inn i):=by
 exact aC.fi ⟨(rng [(2,2),(7,9),(19,26),(46,1)]),[0],[],[]⟩ [bF] (gc (bA h0) gn)
theorem bFd{al:List eM}{c0:List aS}{n':Nat}(h0:inR ((((bM al s t100).2+1):Nat):Int))(h1:(n:Int)≤((((bM al s t100).2+1):Nat):Int))(h2:[(aB (n:Int))].length=1*1∧o.length+1≤1000000)(h3:inR (((n+1):Nat):Int))(eo'n:o'.length=(o.length+1))(eo'c:o'.map aB=((o.map aB)++[(aB (n:Int))]))(en':n'=(n+1)):aC Tp 0 yT (mB al s c0 ou i t100 b101 q102 o.length (o.map aB) n) .normal (mB al s c0 ou i t100 b101 q102 o'.length (o'.map aB) n'):=by
 subst en';have raw:aC Tp 0 yT (mB al s c0 ou i t100 b101 q102 o.length (o.map aB) n) .normal (mB al s c0 ou i t100 b101 q102 (o.length+1) ((o.map aB)++[(aB (n:Int))]) (n+1)):=aC.fi ⟨(rng [(2,2),(7,1),(12,4),(34,10),(46,1)]),[3,1],[],[]⟩ [bT] (gc h3 (gc h2 (gc (aAm h1) (gc h0 gn))));exact raw.cast (by rw [eo'n,eo'c])
theorem bFe{al:List eM}{c0:List aS}(h0:inR ((((bM al s t100).2+1):Nat):Int))(h1:((((bM al s t100).2+1):Nat):Int)<(n:Int)):aC Tp 0 yT (mB al s c0 ou i t100 b101 q102 o.length (o.map aB) n) (.exit 2) (mB al s c0 ou i t100 b101 q102 o.length (o.map aB) n):=by
 exact aC.fi ⟨(rng [(2,2),(7,1),(12,4),(34,10),(46,1)]),[0,1],[],[]⟩ [bF] (gc (qU h1) (gc h0 gn))
def aFx(few many:Nat):List Int:=(List.range (many+1-few)).map fun j=>((few+1+j:Nat):Int)
def chL(al:List eM)(s:Nat)(c:aS):List Int:=if c.2.1 then [] else aFx (bM al s c.1).1 (bM al s c.1).2
def cU(al:List eM)(s:Nat)(c:List aS):List Int:=Lib.compact ((c.flatMap (chL al s)).mergeSort KL.leB)
theorem bLd{a b:Nat}(h:b≤1000):(aFx a b).length≤1001:=by unfold aFx;simp;omega
theorem bRk(al:List eM)(hal:al.length≤1000)(s:Nat)(c:aS):(chL al s c).length≤1001:=by
 unfold chL
 split
 ·simp
 ·exact bLd (by have:(bM al s c.1).2≤al.length:=(kH al s c.1 al.length).2;omega)
theorem aKv{al:List eM}(hal:al.length≤1000)(s:Nat):∀ c:List aS,(c.flatMap (chL al s)).length≤c.length*1001
 | []=>by simp
 | x::c=>by
  rw [List.flatMap_cons,kT,qZ];have:=bRk al hal s x;have:=aKv hal s c;omega
theorem bZg{al:List eM}(hal:al.length≤1000)(s:Nat)(c0:List aS)(ou:Bool)(i:Nat)(t:Int)(b:Bool)(q o:List Int)(ho:o.length≤900000) :
  ∃ n',aH Tp 0 yT (mB al s c0 ou i t b q o.length (o.map aB) ((bM al s t).1+1)) (.exit 2) (mB al s c0 ou i t b q (o++aFx (bM al s t).1 (bM al s t).2).length ((o++aFx (bM al s t).1 (bM al s t).2).map aB) n'):=by
 have h1:(bM al s t).1≤al.length:=(kH al s t al.length).1;have h2:(bM al s t).2≤al.length:=(kH al s t al.length).2;obtain ⟨x,hI,hL⟩:=aH.ex (P:=Tp) (k:=0) (b:=yT) (e := .exit 2) (fun j (x:List Int)=>mB al s c0 ou i t b q x.length (x.map aB) ((bM al s t).1+1+j)) (fun x=>mB al s c0 ou i t b q x.length (x.map aB) ((bM al s t).1+1+((bM al s t).2+1-(bM al s t).1)))
  (fun j x=>x=o++(List.range j).map fun j=>(((bM al s t).1+1+j:Nat):Int)) (by simp) ((bM al s t).2+1-(bM al s t).1)
  (fun j x hj hx=>by
   have hlen:x.length=o.length+j:=by rw [hx];simp
   refine ⟨x++[(((bM al s t).1+1+j:Nat):Int)],?_,bFd (aO (by omega)) (by omega) ⟨rfl,by omega⟩ (aO (by omega)) (by simp) (by simp) rfl⟩
   rw [hx,List.range_succ];simp)
  (fun x _=>bFe (aO (by omega)) (by omega)) (acc:=o) (by simp)
 rw [show o++aFx (bM al s t).1 (bM al s t).2=x from hI.symm]
 exact ⟨_,hL⟩
theorem vM{al:List eM}(hal:al.length≤1000){s:Nat}{c:List aS}{mn mx:Int}(hx:al[s]? = some (c,mn,mx))(hc:c.length≤256){base:Nat} :
  FV Tp 141 [.p (.sl al.length (al.map hpE).flatten),.p (aB s)] base (.tup [.p (aF (cU al s c)),.p (blP (c.any fun x=>x.2.1)),.p (blP (c.any fun x => !x.2.1))]) []:=by
 obtain ⟨a,⟨hI,hJ,hK⟩,hL⟩:=aH.ex (P:=Tp) (k:=0) (b:=yS) (e := .exit 0) (fun i (a:List Int × Bool × Bool)=>mA al s c a.1.length (a.1.map aB) a.2.1 a.2.2 i) (fun a=>mA al s c a.1.length (a.1.map aB) a.2.1 a.2.2 c.length)
  (fun i a=>a.1=(c.take i).flatMap (chL al s)∧a.2.1=((c.take i).any fun x=>x.2.1)∧a.2.2=((c.take i).any fun x => !x.2.1)) (by simp) c.length
  (fun i a hi ha=>by
   obtain ⟨ha1,ha2,ha3⟩:=ha;obtain ⟨⟨t,b,q⟩,hx⟩:∃ x,c[i]? = some x:=⟨_,kQ0 hi⟩;have hlen:a.1.length≤256*1001:=by
    rw [ha1];have:=aKv hal s (c.take i);rw [mY] at this
    have:min i c.length≤256:=by omega
    omega
   have e1:c.take (i+1)=c.take i++[(t,b,q)]:=by rw [List.take_add_one,hx];rfl
   cases b with
   | true=>exact ⟨(a.1,true,a.2.2),⟨by rw [ha1,e1];simp [chL],by rw [e1];simp,by rw [ha3,e1];simp⟩,bFa (by omega) hx rfl (aO (by omega)) rfl⟩
   | false =>
    have h1:(bM al s t).1≤al.length:=(kH al s t al.length).1;obtain ⟨n',hl⟩:=bZg hal s c a.2.1 i t false q a.1 (by omega)
    exact ⟨(a.1++aFx (bM al s t).1 (bM al s t).2,a.2.1,true),⟨by rw [ha1,e1];simp [chL],by rw [ha2,e1];simp,by rw [e1];simp⟩,bFb (by omega) hx rfl hal (aO (by omega)) hl (aO (by omega)) rfl rfl rfl⟩)
  (fun a _=>bFc (by omega)) (acc:=([],false,false)) (by simp)
 rw [List.take_length] at hI hJ hK
 have hb:=aKv hal s c;have:=bZf (s:=s) hx hL (by rw [hI];omega) (by rw [bMw,hI];omega) (base:=base)
 rw [hI,hJ,hK] at this
 exact this
end
section
variable {s1 s2 x0 x1 bib y100 y101:Int}{l:Lqq}{i i0 base:Nat}
variable {dl:Int}{sk dc:Lqq}

theorem aUk:((0:Int) != (0:Int))=false:=by first | decide | simp
def vL(l:Lqq)(x0:Int)(x1:Int)(i:Nat):St:=⟨fr 19 [(0,(.p (fS l))),(3,(.ptr 0 0)),(7,(pI (l.length:Int))),(8,(pI (i:Int)))],[some (.box 31 [(pI x0),(pI x1)])]⟩
theorem bYz{i'0:Nat}(hl0:aH Tp 0 (sub (cd Tryz.f185) [1,0,1,0,0]) (vL l x0 x1 0) .ret (dI (vL l x0 x1 i'0) [(4,(pI (i'0:Int)))])):FV Tp 185 [(.p (fS l)),(.p (.agg [(aB x0),(aB x1)]))] base (pI (i'0:Int)) []:=by
 exact FV.fi Tryz.func185 [hl0.k 6 ⟨(rng [(1,2),(4,3),(9,10)]),[0],[],[]⟩] (gc hl0.code gn)
theorem bEr(h0:(i:Int)<(l.length:Int))(h1:l[i]? = some [y100,y101])(h2:uni 2 l)(h3:eF [(aB x0),(aB x1)] [(0,3,true),(1,3,true)]=true∧eF [(aB y100),(aB y101)] [(0,3,true),(1,3,true)]=true)(h4:(nX [(aB x0),(aB x1)] [(aB y100),(aB y101)] [(0,3,true),(1,3,true)])=true):aC Tp 0 (sub (cd Tryz.f185) [1,0,1,0,0]) (vL l x0 x1 i) .ret (dI (vL l x0 x1 i) [(4,(pI (i:Int)))]):=by
 exact aC.fi ⟨(rng [(1,2),(5,2),(9,10)]),[0],[],[]⟩ [bT,.x (.agg [(aB y100),(aB y101)]),bT] (gc h4 (gc h3 (gc (aT (i:=i) h2 h1) (gc (bH (i:=i) h2 h1) (gc (bR (k:=2) (i:=(i:Int)) (by decide) h2 (kQ1 _) h1) (gc (aV h0) gn))))))
theorem bEs{i':Nat}(h0:(i:Int)<(l.length:Int))(h1:l[i]? = some [y100,y101])(h2:uni 2 l)(h3:eF [(aB x0),(aB x1)] [(0,3,true),(1,3,true)]=true∧eF [(aB y100),(aB y101)] [(0,3,true),(1,3,true)]=true)(h4:(nX [(aB x0),(aB x1)] [(aB y100),(aB y101)] [(0,3,true),(1,3,true)])=false)(h5:inR (((i+1):Nat):Int))(ei':i'=(i+1)):aC Tp 0 (sub (cd Tryz.f185) [1,0,1,0,0]) (vL l x0 x1 i) .normal (vL l x0 x1 i'):=by
 subst ei';exact aC.fi ⟨(rng [(1,2),(4,3),(9,10)]),[0],[],[]⟩ [bT,.x (.agg [(aB y100),(aB y101)]),bF] (gc h5 (gc h4 (gc h3 (gc (aT (i:=i) h2 h1) (gc (bH (i:=i) h2 h1) (gc (bR (k:=2) (i:=(i:Int)) (by decide) h2 (kQ1 _) h1) (gc (aV h0) gn)))))))
theorem bZa{l:Lqq}(hu:uni 2 l)(hn:(aP l 0).Nodup)(hl:l.length≤1000){i:Nat}{x0 x1:Int}(hi:l[i]? = some [x0,x1]){base:Nat}:FV Tp 185 [.p (fS l),.p (.agg [aB x0,aB x1])] base (pI (i:Int)) []:=by
 have hlt:=bC hi;refine bYz (i'0:=i) ?_;have hne:∀ j,j<i→∃ y0 y1,l[j]? = some [y0,y1]∧y0≠x0:=fun j hj=>by
  obtain ⟨y0,y1,hy⟩:=at2 hu (i:=j) (by omega)
  refine ⟨y0,y1,hy,fun e => ?_⟩
  have e1:(aP l 0)[j]? = some y0:=by unfold aP;rw [jA,hy];rfl
  have e2:(aP l 0)[i]? = some x0:=by unfold aP;rw [jA,hi];rfl
  obtain ⟨hj1,hj2⟩:=kQ3.1 e1;obtain ⟨hi1,hi2⟩:=kQ3.1 e2;have:=List.pairwise_iff_getElem.1 hn j i hj1 hi1 hj;rw [hj2,hi2] at this
  exact this e
 exact aH.until (P:=Tp) i (fun j=>vL l x0 x1 j) i (dM _)
  (fun j hj=>by
   obtain ⟨y0,y1,hy,hn⟩:=hne j hj;exact bEs (by omega) hy hu ⟨rfl,rfl⟩ (by simp [nX,aFm];exact fun h=>absurd h.symm hn) (aO (by omega)) rfl)
  (bEr (by omega) hi hu ⟨rfl,rfl⟩ (by simp [nX,aFm])) (by simp)
theorem lE(h:bG dl sk dc):uni 2 (aA sk)∧(aA sk).length≤30∧(∀ s∈aA sk,-1≤s.getD 1 0∧s.getD 1 0≤360000)∧(aP (aA sk) 0).Nodup:=by
 have hp:=fG sk;refine ⟨mT h.us,by rw [cQ];exact h.len.2,fun s hs=>(aBe.1 (h.hsk s (hp.mem_iff.1 hs))).2,?_⟩
 unfold aP;exact (hp.map _).nodup_iff.2 h.ns
theorem aBi(h:bG dl sk dc)(ho:(aN dl (aA dc)).length≤8){base:Nat}:FV Tp 161 [pG dl (aA sk) (aA dc)] base (.tup [.own base,.p (aB 0)]) [(base,.row 195 (aE dl (aA sk) (aA dc)).length ((aE dl (aA sk) (aA dc)).map hpE).flatten)]:=by
 obtain ⟨h1,h2,h3,_⟩:=lE h;exact bZi (eA h) h1 (by omega) h3 ho
theorem bEt(h:bG dl sk dc)(ho:8<(aN dl (aA dc)).length){base:Nat}:FV Tp 161 [pG dl (aA sk) (aA dc)] base (.tup [.p dR,.p (aB 10)]) []:=bLf (eA h) ho
theorem aWz(h:bG dl sk dc){i:Nat}{x0 x1:Int}(hi:(aA sk)[i]? = some [x0,x1]){base:Nat}:FV Tp 185 [.p (fS (aA sk)),.p (.agg [aB x0,aB x1])] base (pI (i:Int)) []:=by
 obtain ⟨h1,h2,_,h4⟩:=lE h;exact bZa h1 h4 (by omega) hi
theorem aUl(h0:bG dl sk dc)(h1:kW (aA sk) bib=(i0:Int))(h2:(aA sk)[i0]? = some [s1,s2])(h3:(aN dl (aA dc)).length≤8):FV Tp 140 [(.p (.agg (cR dl sk dc))),(pI bib)] base (.tup [(.p (.sl ((aE dl (aA sk) (aA dc)).length) (((aE dl (aA sk) (aA dc)).map hpE).flatten))),(pI (i0:Int)),(pI 0)]) []:=by
 have k1:=fk 1 (aSe h0 h1 h2) rfl;have k2:=fk 2 (aBi h0 h3) rfl;exact FV.frz (FMM.fi 0 ⟨[],[],[2],[]⟩ Tryz.func140 [k1.o,bF,k2.o,.x (.sl ((aA sk).length) ((aA sk).flatten.map aB)),.c (pI (i0:Int)) []] (gc (fk 3 (aWz h0 h2) rfl) (gr (.sl ((aA sk).length) ((aA sk).flatten.map aB)) (gc k2 (gc aUk (gc k1 gn)))))) (by kernel_rfl)
theorem bZb(h0:bG dl sk dc)(h1:kW (aA sk) bib=(i0:Int))(h2:(aA sk)[i0]? = some [s1,s2])(h3:8<(aN dl (aA dc)).length):FV Tp 140 [(.p (.agg (cR dl sk dc))),(pI bib)] base (.tup [(.p dR),(pI (i0:Int)),(pI 10)]) []:=by
 have k1:=fk 1 (aSe h0 h1 h2) rfl;have k2:=fk 2 (bEt h0 h3) rfl;exact FV.frz (FMM.fi 0 ⟨[],[],[],[]⟩ Tryz.func140 [k1.o,bF,k2.o,.x (.sl ((aA sk).length) ((aA sk).flatten.map aB)),.c (pI (i0:Int)) []] (gc (fk 2 (aWz h0 h2) rfl) (gr (.sl ((aA sk).length) ((aA sk).flatten.map aB)) (gc k2 (gc aUk (gc k1 gn)))))) (by kernel_rfl)
theorem bZc{c3:List aS}{mn4 mx5:Int}{r0:Bool}(h0:bG dl sk dc)(h1:kW (aA sk) bib=(i0:Int))(h2:(aA sk)[i0]? = some [s1,s2])(h3:(aN dl (aA dc)).length≤8)(h4:(aE dl (aA sk) (aA dc))[i0]? = some (c3,mn4,mx5))(h5:(aE dl (aA sk) (aA dc)).length≤1000)(h6:c3.length≤256)(er0:r0=(c3.any fun x=>x.2.1)):FV Tp 71 [(.p (.agg (cR dl sk dc))),(pI bib)] base (.tup [(.p (aF (cU (aE dl (aA sk) (aA dc)) i0 c3))),(pB r0),(pI 0)]) []:=by
 subst er0;have k1:=fk 1 (aUl h0 h1 h2 h3) rfl;have k2:=fk 1 (vM h5 h4 h6) rfl;exact FV.fi Tryz.func71 [k1.o,bF,k2.o] (gc k2 (gc aUk (gc k1 gn)))
theorem bZd(h0:bG dl sk dc)(h1:kW (aA sk) bib=(i0:Int))(h2:(aA sk)[i0]? = some [s1,s2])(h3:8<(aN dl (aA dc)).length):FV Tp 71 [(.p (.agg (cR dl sk dc))),(pI bib)] base (.tup [(.p dR),(pB false),(pI 10)]) []:=by
 have k1:=fk 1 (bZb h0 h1 h2 h3) rfl;exact FV.fi Tryz.func71 [k1.o,bT] (gt (((10:Int) != (0:Int))=true) (by first | decide | simp) (gc k1 gn))
end
section
variable {a b:Bool}{f fi y100 y101 mn103 mx104:Int}{l o:List Int}{i i' base:Nat}
variable {dl:Int}{sk dc:Lqq}

noncomputable abbrev aEp:Code:=sub (cd Tryz.f93) [1,1,1,1,1,1,1,0,1,0,0]
theorem bLb:((0:Int) != (0:Int))=false:=by first | decide | simp
theorem bYu{x0:Int}{r0:Bool}(h0:b=true)(h1:a=false)(h2:inR ((l.length:Int)-1))(h3:l[((l.length:Int)-1).toNat]? = some x0)(h4:0≤((l.length:Int)-1))(er0:r0=(decide (x0≤f))):FV Tp 95 [(.p (aF l)),(pB a),(pB b),(.rp [(aB f)] 0)] base (pB r0) []:=by
 subst er0;exact FV.fi Tryz.func95 [bT,bT,bT,bT,bT,bT,bT,bT,bT,.x (aB x0),bT,.x (aB f),bT,bT] (g2c (bI h1) (gr (aB f) (gc (bI h1) (gt ((l.map aB)[(((l.length:Int)-1).toNat*1)]? = some (aB x0)) (iO (i:=((l.length:Int)-1).toNat) h3) (gc (bI h1) (gc (iP (g:=aB) h4 h3) (gc (bI h1) (gc h2 (g4c (bI h1) (g3c h0 gn))))))))))
theorem bYv(h0:b=true)(h1:a=true):FV Tp 95 [(.p (aF l)),(pB a),(pB b),(.rp [(aB f)] 0)] base (pB false) []:=by
 exact FV.fi Tryz.func95 [bT,bT,bT,bF,bF,bF,bF,bF,bF,bF,bF,bF] (g8c (aI h1) (gc (aI h1) (g3c h0 gn)))
theorem bYw(h0:b=false):FV Tp 95 [(.p (aF l)),(pB a),(pB b),(.rp [(aB f)] 0)] base (pB false) []:=by
 exact FV.fi Tryz.func95 [bF,bF,bF] (g3c h0 gn)
def aFw(l:List Int)(a b:Bool)(f:Int):Bool:=b && (!a && decide (l.getD (l.length-1) 0≤f))
theorem bLc(l:List Int)(a b:Bool)(f:Int)(hl:l.length≤1000000)(hb:b=true→l≠[]){base:Nat}:FV Tp 95 [.p (aF l),.p (blP a),.p (blP b),.rp [aB f] 0] base (pB (aFw l a b f)) []:=by
 cases b with
 | false=>exact bYw rfl
 | true =>
  cases a with
  | true=>exact bYv rfl rfl
  | false =>
   have h0:=hb rfl;have h1:0<l.length:=List.length_pos_iff.2 h0;have h2:l[l.length-1]? = some (l.getD (l.length-1) 0):=by rw [kQ4,kQ0 (by omega)];rfl
   have e:((l.length:Int)-1).toNat=l.length-1:=by omega
   exact bYu (x0:=l.getD (l.length-1) 0) rfl rfl (by unfold inR;omega) (by rw [e];exact h2) (by omega) (by unfold aFw;simp)
def lZ(dl:Int)(sk:Lqq)(dc:Lqq)(fi:Int)(on:Nat)(oc:List PV)(i:Nat):St:=⟨fr 58 [(2,(.fn 95 [] [(.rp [(aB fi)] 0)])),(6,(.p dR)),(7,(pI 0)),(10,(.p (.sl ((aE dl (aA sk) (aA dc)).length) (((aE dl (aA sk) (aA dc)).map hpE).flatten)))),(11,(.own 0)),(36,(.p (.sl ((aA sk).length) ((aA sk).flatten.map aB)))),(37,(pI (((aA sk).length:Nat):Int))),(38,(pI (i:Int)))],[some (.row 3 on oc)]⟩
theorem bYx{o'0:List Int}{i'1:Nat}(h0:bG dl sk dc)(h1:(1:Int)≤fi)(h2:(aN dl (aA dc)).length≤8)(hl3:aH Tp 0 aEp (lZ dl sk dc fi 0 [] 0) (.exit 0) (lZ dl sk dc fi o'0.length (o'0.map aB) i'1)):FV Tp 93 [(.p (.agg (cR dl sk dc))),(pI fi),(.fn 95 [] [(.rp [(aB fi)] 0)])] base (.tup [(.p (aF o'0)),(pI 0)]) []:=by
 have k1:=fk 1 (jF dl sk dc h0) rfl;have k2:=fk 1 (aBi h0 h2) rfl;exact FV.frz (FMM.fi 0 ⟨[],[],[0],[]⟩ Tryz.func93 [k1.o,bF,bF,k2.o,bF,.g 1 ⟨[],[0],[1],[]⟩,.x (.sl ((aA sk).length) ((aA sk).flatten.map aB)),hl3.k 1 ⟨(rng [(0,2),(3,3),(8,2),(12,24),(39,18)]),[1],[],[(11,3)]⟩] (gc hl3.code (gr (.sl ((aA sk).length) ((aA sk).flatten.map aB)) (gc bLb (gc k2 (gc (bA h1) (gc bLb (gc k1 gn)))))))) (by kernel_rfl)
theorem bEo{c102:List aS}{o':List Int}(h0:(i:Int)<(((aA sk).length:Nat):Int))(h1:(aA sk)[i]? = some [y100,y101])(h2:uni 2 (aA sk))(h3:(aE dl (aA sk) (aA dc))[i]? = some (c102,mn103,mx104))(h4:(aE dl (aA sk) (aA dc)).length≤1000)(h5:c102.length≤256)(h6:(cU (aE dl (aA sk) (aA dc)) i c102).length≤1000000)(h7:(c102.any fun x => !x.2.1)=true→(cU (aE dl (aA sk) (aA dc)) i c102)≠[])(h8:(aFw (cU (aE dl (aA sk) (aA dc)) i c102) (c102.any fun x=>x.2.1) (c102.any fun x => !x.2.1) fi)=true)(h9:[(aB y100)].length=1*1∧o.length+1≤1000000)(h10:inR (((i+1):Nat):Int))(eo'n:o'.length=(o.length+1))(eo'c:o'.map aB=((o.map aB)++[(aB y100)]))(ei':i'=(i+1)):aC Tp 0 aEp (lZ dl sk dc fi o.length (o.map aB) i) .normal (lZ dl sk dc fi o'.length (o'.map aB) i'):=by
 subst ei';have k1:=fk 2 (vM h4 h3 h5) rfl;have k2:=fk 2 (bLc (cU (aE dl (aA sk) (aA dc)) i c102) (c102.any fun x=>x.2.1) (c102.any fun x => !x.2.1) fi h6 h7) rfl;have raw:aC Tp 0 aEp (lZ dl sk dc fi o.length (o.map aB) i) .normal (lZ dl sk dc fi (o.length+1) ((o.map aB)++[(aB y100)]) (i+1)):=aC.fi ⟨(rng [(0,2),(3,3),(8,2),(12,24),(39,18)]),[3],[],[]⟩ [bT,.x (.agg [(aB y100),(aB y101)]),k1.o,k2.o,bT] (gc h10 (gc h9 (gc h8 (gc k2 (gc k1 (gc (aT (i:=i) h2 h1) (gc (bH (i:=i) h2 h1) (gc (bR (k:=2) (i:=(i:Int)) (by decide) h2 (kQ1 _) h1) (gc (aV h0) gn)))))))))
 exact raw.cast (by rw [eo'n,eo'c])
theorem bEp{c102:List aS}(h0:(i:Int)<(((aA sk).length:Nat):Int))(h1:(aA sk)[i]? = some [y100,y101])(h2:uni 2 (aA sk))(h3:(aE dl (aA sk) (aA dc))[i]? = some (c102,mn103,mx104))(h4:(aE dl (aA sk) (aA dc)).length≤1000)(h5:c102.length≤256)(h6:(cU (aE dl (aA sk) (aA dc)) i c102).length≤1000000)(h7:(c102.any fun x => !x.2.1)=true→(cU (aE dl (aA sk) (aA dc)) i c102)≠[])(h8:(aFw (cU (aE dl (aA sk) (aA dc)) i c102) (c102.any fun x=>x.2.1) (c102.any fun x => !x.2.1) fi)=false)(h9:inR (((i+1):Nat):Int))(ei':i'=(i+1)):aC Tp 0 aEp (lZ dl sk dc fi o.length (o.map aB) i) .normal (lZ dl sk dc fi o.length (o.map aB) i'):=by
 subst ei';have k1:=fk 2 (vM h4 h3 h5) rfl;have k2:=fk 2 (bLc (cU (aE dl (aA sk) (aA dc)) i c102) (c102.any fun x=>x.2.1) (c102.any fun x => !x.2.1) fi h6 h7) rfl;exact aC.fi ⟨(rng [(0,2),(3,3),(8,2),(12,24),(39,18)]),[0],[],[]⟩ [bT,.x (.agg [(aB y100),(aB y101)]),k1.o,k2.o,bF] (gc h9 (gc h8 (gc k2 (gc k1 (gc (aT (i:=i) h2 h1) (gc (bH (i:=i) h2 h1) (gc (bR (k:=2) (i:=(i:Int)) (by decide) h2 (kQ1 _) h1) (gc (aV h0) gn))))))))
theorem bEq(h0:(((aA sk).length:Nat):Int)≤(i:Int)):aC Tp 0 aEp (lZ dl sk dc fi o.length (o.map aB) i) (.exit 0) (lZ dl sk dc fi o.length (o.map aB) i):=by
 exact aC.fi ⟨(rng [(0,2),(3,3),(8,2),(12,24),(39,18)]),[0],[],[]⟩ [bF] (gc (bA h0) gn)
abbrev cBg(dl:Int)(sk dc:Lqq)(fi:Int)(o:List Int)(e:Int):Prop:=∀ base:Nat,FV Tp 93 [.p (.agg (cR dl sk dc)),.p (aB fi),.fn 95 [] [.rp [aB fi] 0]] base (.tup [.p (aF o),.p (aB e)]) []
theorem bYy{e0:Int}{o1:List Int}(h0:cBg dl sk dc fi o1 e0):FV Tp 33 [(.p (.agg (cR dl sk dc))),(pI fi)] base (.tup [(.p (aF o1)),(pI e0)]) []:=by
 exact FV.fi Tryz.func33 [.g 3 ⟨[],[0],[1],[]⟩,.x (aB fi),.c (.tup [(.p (aF o1)),(pI e0)]) []] (gc (fk 1 (h0 _) rfl) (gr (aB fi) gn))
end
end KV
end Go.Proofs
section
namespace Go.Proofs
open Go.RowKit Go.Lib
namespace KV
theorem aWv(o:List Int):gL o≠[]:=fun h=>by
 have:=wO o;rw [h] at this
 have:=Nat.two_pow_pos o.length;simp at *
 omega
theorem aOr(l:List aS):∀ m,l.foldl (fun m x=>if x.1<m then x.1 else m) m≤m∧∀ x∈l,l.foldl (fun m x=>if x.1<m then x.1 else m) m≤x.1:=by
 induction l with
 | nil=>intro m;exact ⟨aNk _,fun x h=>by cases h⟩
 | cons a l ih =>
  intro m;rw [rU];obtain ⟨h1,h2⟩:=ih (if a.1<m then a.1 else m)
  have ha:(if a.1<m then a.1 else m)≤m∧(if a.1<m then a.1 else m)≤a.1:=by split <;> omega
  exact ⟨by omega,fun x hx=>by
   rcases jH.1 hx with rfl | hx
   ·omega
   ·exact h2 x hx⟩
theorem aOs(l:List aS):∀ m,m≤l.foldl (fun m x=>if x.1 > m then x.1 else m) m∧∀ x∈l,x.1≤l.foldl (fun m x=>if x.1 > m then x.1 else m) m:=by
 induction l with
 | nil=>intro m;exact ⟨aNk _,fun x h=>by cases h⟩
 | cons a l ih =>
  intro m;rw [rU];obtain ⟨h1,h2⟩:=ih (if a.1 > m then a.1 else m)
  have ha:m≤(if a.1 > m then a.1 else m)∧a.1≤(if a.1 > m then a.1 else m):=by split <;> omega
  exact ⟨by omega,fun x hx=>by
   rcases jH.1 hx with rfl | hx
   ·omega
   ·exact h2 x hx⟩
theorem bRj{l:List aS}(h:l≠[]):mnM l≤mxM l:=by
 obtain ⟨x,hx⟩:=bMv l h;exact Int.le_trans ((aOr l far).2 x hx) ((aOs l 0).2 x hx)
theorem aWw(dl:Int)(dc:Lqq)(s0 s1:Int)(o:List Int):(gM dl dc s0 s1 o).2.1≤(gM dl dc s0 s1 o).2.2:=bRj fun h=>aWv o (List.map_eq_nil_iff.1 h)
theorem gH(dl:Int)(sk dc:Lqq):(aE dl sk dc).length=sk.length:=by unfold aE;simp
theorem eV{dl:Int}{sk dc:Lqq}{i:Nat}{s:List Int}(h:sk[i]? = some s):(aE dl sk dc)[i]? = some (gM dl dc (s.getD 0 0) (s.getD 1 0) (jK dl dc (s.getD 0 0))):=by
 unfold aE;rw [jA,h];rfl
theorem nG{dl:Int}{dc:Lqq}{s0 s1:Int}(b:Int)(ho:(aN dl dc).length≤8):(gM dl dc s0 s1 (jK dl dc b)).1.length≤256:=by
 show ((gL (jK dl dc b)).map _).length≤256;rw [eR,wO];have:=bLe dl dc b;exact fT (Nat.pow_le_pow_right (by omega) (show (jK dl dc b).length≤8 by omega)) (by decide)
theorem aWx{al:List eM}(h:∀ x∈al,x.2.1≤x.2.2)(s:Nat)(t:Int):∀ i,(dA al s t i).1≤(dA al s t i).2
 | 0=>dM _
 | i+1=>by
  have ih:=aWx h s t i;unfold dA
  split
  ·rename_i x hx
   have:=h x (kQ5 hx)
   split
   ·exact ih
   ·dsimp only
    split <;> split <;> omega
  ·exact ih
theorem aUj{l:List Int}(h:l≠[]):Lib.compact l≠[]:=fun e=>by
 have:(Lib.compact l).length=0:=by rw [e];rfl
 unfold Lib.compact Lib.compactUpTo at this
 rw [eR] at this
 have h0:0∈(List.range l.length).filter (Lib.keeps l.toArray):=nA.2 ⟨lH.2 (List.length_pos_iff.2 h),Lib.keeps_lt_one _ 0 (by omega)⟩
 rw [aDe this] at h0
 cases h0
theorem aEo{al:List eM}(h:∀ x∈al,x.2.1≤x.2.2)(s:Nat){c:List aS}(hc:(c.any fun x => !x.2.1)=true):cU al s c≠[]:=by
 unfold cU;refine aUj fun e => ?_
 have e2:c.flatMap (chL al s)=[]:=by
  have:=bMw (le:=KL.leB) (c.flatMap (chL al s));rw [e] at this
  exact aDe this.symm
 obtain ⟨x,hx,hn⟩:=List.any_eq_true.1 hc;have h1:chL al s x=[]:=List.flatMap_eq_nil_iff.1 e2 x hx;have hf:x.2.1=false:=by simpa using hn
 unfold chL aFx at h1
 rw [hf] at h1
 have:=congrArg List.length h1;have hl:=aWx h s x.1 al.length;simp at this
 have h3:(bM al s x.1).1≤(bM al s x.1).2:=hl;omega
theorem aWy{al:List eM}(hal:al.length≤1000)(s:Nat){c:List aS}(hc:c.length≤256):(cU al s c).length≤1000000:=by
 unfold cU;refine fT (aEq _) ?_;rw [bMw];have:=aKv hal s c;omega
theorem sK(dl:Int)(sk dc:Lqq):∀ x∈aE dl sk dc,x.2.1≤x.2.2:=fun x hx=>by
 obtain ⟨s,_,rfl⟩:=kQ9.1 hx;exact aWw ..
end KV
end Go.Proofs
end
namespace Go.Proofs
namespace KV
section
def uJ(dl:Int)(sk dc:Lqq)(f:Int)(i:Nat):Bool:=match (aE dl sk dc)[i]? with
 | some h=>aFw (cU (aE dl sk dc) i h.1) (h.1.any fun x=>x.2.1) (h.1.any fun x => !x.2.1) f
 | none=>false
def nE(dl:Int)(sk dc:Lqq)(f:Int):List Int:=((List.range sk.length).filter (uJ dl sk dc f)).map fun i=>(sk.getD i []).getD 0 0
theorem bKz{dl:Int}{sk dc:Lqq}(h:bG dl sk dc){bib:Int}{i:Nat}{s0 s1:Int}(hp:kW (aA sk) bib=(i:Int))(hs:(aA sk)[i]? = some [s0,s1])(ho:(aN dl (aA dc)).length≤8){base:Nat} :
  FV Tp 71 [.p (.agg (cR dl sk dc)),.p (aB bib)] base (.tup [.p (aF (cU (aE dl (aA sk) (aA dc)) i (gM dl (aA dc) s0 s1 (jK dl (aA dc) s0)).1)),.p (blP ((gM dl (aA dc) s0 s1 (jK dl (aA dc) s0)).1.any fun x=>x.2.1)),.p (aB 0)]) []:=by
 obtain ⟨_,h2,_,_⟩:=lE h;exact bZc h hp hs ho (eV hs) (by rw [gH];omega) (nG s0 ho) rfl
theorem bYt{dl:Int}{sk dc:Lqq}(h:bG dl sk dc){f:Int}(hf:1≤f)(ho:(aN dl (aA dc)).length≤8):cBg dl sk dc f (nE dl (aA sk) (aA dc) f) 0:=fun base=>by
 obtain ⟨h1,h2,_,_⟩:=lE h;obtain ⟨o,hI,hL⟩:=aH.ex (P:=Tp) (k:=0) (b:=sub (cd Tryz.f93) [1,1,1,1,1,1,1,0,1,0,0]) (e := .exit 0) (fun i (o:List Int)=>lZ dl sk dc f o.length (o.map aB) i) (fun o=>lZ dl sk dc f o.length (o.map aB) (aA sk).length)
  (fun i o=>o=((List.range i).filter (uJ dl (aA sk) (aA dc) f)).map fun i=>((aA sk).getD i []).getD 0 0) (by simp) (aA sk).length
  (fun i o hi hoE=>by
   obtain ⟨y0,y1,hy⟩:=at2 h1 hi;have hat:=eV (dl:=dl) (dc:=aA dc) hy;have hlen:o.length≤i:=by
    rw [hoE,eR];have:=tR (uJ dl (aA sk) (aA dc) f) (List.range i);simpa using this
   have hmb:uJ dl (aA sk) (aA dc) f i=aFw (cU (aE dl (aA sk) (aA dc)) i (gM dl (aA dc) y0 y1 (jK dl (aA dc) y0)).1) ((gM dl (aA dc) y0 y1 (jK dl (aA dc) y0)).1.any fun x=>x.2.1) ((gM dl (aA dc) y0 y1 (jK dl (aA dc) y0)).1.any fun x => !x.2.1) f:=by
    unfold uJ;rw [hat];rfl
   have hal:(aE dl (aA sk) (aA dc)).length≤1000:=by rw [gH];omega
   have hc:=nG (s0:=y0) (s1:=y1) y0 ho;have hg:((aA sk).getD i []).getD 0 0=y0:=by simp [kQ4,hy]
   cases hb:uJ dl (aA sk) (aA dc) f i with
   | true =>
    refine ⟨o++[y0],?_,bEo (by omega) hy h1 hat hal hc (aWy hal i hc) (fun hn=>aEo (sK _ _ _) i hn) (by rw [← hb,hmb];rfl) ⟨rfl,by omega⟩ (aO (by omega)) (by simp) (by simp) rfl⟩
    rw [hoE,List.range_succ,lR,gJ];simp only [List.filter_cons,hb,if_true,List.filter_nil,gZ,List.map_nil,hg]
   | false =>
    refine ⟨o,?_,bEp (by omega) hy h1 hat hal hc (aWy hal i hc) (fun hn=>aEo (sK _ _ _) i hn) (by rw [← hb,hmb];rfl) (aO (by omega)) rfl⟩
    rw [hoE,List.range_succ,lR,gJ];simp [List.filter_cons,hb])
  (fun o _=>bEq (by omega)) (acc:=[]) (by simp)
 have e:o=nE dl (aA sk) (aA dc) f:=hI;rw [← e];exact bYx h hf ho hL
theorem bLa{dl:Int}{sk dc:Lqq}(h:bG dl sk dc){f:Int}(hf:1≤f)(ho:(aN dl (aA dc)).length≤8){base:Nat}:FV Tp 33 [.p (.agg (cR dl sk dc)),.p (aB f)] base (.tup [.p (aF (nE dl (aA sk) (aA dc) f)),.p (aB 0)]) []:=bYy (bYt h hf ho)
end
section
variable {c x100 x101 y100 y101 y102 y103 y104 y105:Int}{a b:Lqq}{i i' i'0 base:Nat}

noncomputable abbrev yQ:Code:=sub (cd Tryz.f51) [1,1,0,1,0,0]
noncomputable abbrev yR:Code:=sub (cd Tryz.f41) [1,1,0,1,0,0]
theorem bYl{dl:Int}{sk dc:Lqq}{bib:Int}{i0:Nat}{s1 s2 n3:Int}{b4:Bool}{T5:Lqb}(h0:bG dl sk dc)(h1:kW (aA sk) bib=(i0:Int))(h2:(aA sk)[i0]? = some [s1,s2])(h3:aFr dl (aA sk) (aA dc) dR [s1,s2] n3 b4 ([]:Lqb) T5):FV Tp 61 [(.p (.agg (cR dl sk dc))),(pI bib)] base (.tup [(pI n3),(pB b4),(pI 0)]) []:=by
 have k1:=fk 1 (aSe h0 h1 h2) rfl;have k2:=mN [] 2 (aKc (dl:=dl) (sk:=(aA sk)) (dc:=(aA dc)));have k3:=mq [2,3,4,5,6,7,8] 10 h3;exact FV.fi Tryz.func61 [k1.o,bF,k2.o,k3.o] (gc k3 (gc k2 (gt (((0:Int) != (0:Int))=false) (by first | decide | simp) (gc k1 gn))))
def kY(a:Lqq)(b:Lqq)(i:Nat):St:=⟨fr 26 [(0,(.p (fS a))),(1,(.p (fS b))),(12,(pI (a.length:Int))),(13,(pI (i:Int)))],[]⟩
theorem bYm(h0:(a.length:Int)≠(b.length:Int)):FV Tp 51 [(.p (fS a)),(.p (fS b))] base (pB false) []:=by
 exact FV.fi Tryz.func51 [bT] (gc (nB h0) gn)
theorem bYn(h0:(a.length:Int)=(b.length:Int))(hl1:aH Tp 0 yQ (kY a b 0) (.exit 0) (kY a b i'0)):FV Tp 51 [(.p (fS a)),(.p (fS b))] base (pB true) []:=by
 exact FV.fi Tryz.func51 [bF,hl1.k 4 ⟨(rng [(2,10),(14,12)]),[],[],[]⟩] (gc hl1.code (gc (gB h0) gn))
theorem bYo(h0:(a.length:Int)=(b.length:Int))(hl1:aH Tp 0 yQ (kY a b 0) .ret (dI (kY a b i'0) [(4,(.kb false))])):FV Tp 51 [(.p (fS a)),(.p (fS b))] base (pB false) []:=by
 exact FV.fi Tryz.func51 [bF,hl1.k 4 ⟨(rng [(2,10),(14,12)]),[],[],[]⟩] (gc hl1.code (gc (gB h0) gn))
theorem bEi(h0:(i:Int)<(a.length:Int))(h1:a[i]? = some [y100,y101,y102])(h2:uni 3 a)(h3:b[i]? = some [y103,y104,y105])(h4:uni 3 b)(h5:eF [(aB y100),(aB y101),(aB y102)] [(0,3,true),(1,3,true),(2,3,true)]=true∧eF [(aB y103),(aB y104),(aB y105)] [(0,3,true),(1,3,true),(2,3,true)]=true)(h6:(nX [(aB y100),(aB y101),(aB y102)] [(aB y103),(aB y104),(aB y105)] [(0,3,true),(1,3,true),(2,3,true)])=false):aC Tp 0 yQ (kY a b i) .ret (dI (kY a b i) [(4,(.kb false))]):=by
 exact aC.fi ⟨(rng [(2,2),(5,7),(14,12)]),[],[],[]⟩ [bT,.x (.agg [(aB y100),(aB y101),(aB y102)]),.x (.agg [(aB y103),(aB y104),(aB y105)]),bT] (gc (bI h6) (gc h5 (gc (aT (i:=i) h4 h3) (gc (bH (i:=i) h4 h3) (gc (bR (k:=3) (i:=(i:Int)) (by decide) h4 (kQ1 _) h3) (gc (aT (i:=i) h2 h1) (gc (bH (i:=i) h2 h1) (gc (bR (k:=3) (i:=(i:Int)) (by decide) h2 (kQ1 _) h1) (gc (aV h0) gn)))))))))
theorem bEj(h0:(i:Int)<(a.length:Int))(h1:a[i]? = some [y100,y101,y102])(h2:uni 3 a)(h3:b[i]? = some [y103,y104,y105])(h4:uni 3 b)(h5:eF [(aB y100),(aB y101),(aB y102)] [(0,3,true),(1,3,true),(2,3,true)]=true∧eF [(aB y103),(aB y104),(aB y105)] [(0,3,true),(1,3,true),(2,3,true)]=true)(h6:(nX [(aB y100),(aB y101),(aB y102)] [(aB y103),(aB y104),(aB y105)] [(0,3,true),(1,3,true),(2,3,true)])=true)(h7:inR (((i+1):Nat):Int))(ei':i'=(i+1)):aC Tp 0 yQ (kY a b i) .normal (kY a b i'):=by
 subst ei';exact aC.fi ⟨(rng [(2,10),(14,12)]),[],[],[]⟩ [bT,.x (.agg [(aB y100),(aB y101),(aB y102)]),.x (.agg [(aB y103),(aB y104),(aB y105)]),bF] (gc h7 (gc (aI h6) (gc h5 (gc (aT (i:=i) h4 h3) (gc (bH (i:=i) h4 h3) (gc (bR (k:=3) (i:=(i:Int)) (by decide) h4 (kQ1 _) h3) (gc (aT (i:=i) h2 h1) (gc (bH (i:=i) h2 h1) (gc (bR (k:=3) (i:=(i:Int)) (by decide) h2 (kQ1 _) h1) (gc (aV h0) gn))))))))))
theorem bEk(h0:(a.length:Int)≤(i:Int)):aC Tp 0 yQ (kY a b i) (.exit 0) (kY a b i):=by
 exact aC.fi ⟨(rng [(2,10),(14,12)]),[],[],[]⟩ [bF] (gc (bA h0) gn)
theorem bYp(a b:Lqq)(ha:uni 3 a)(hb:uni 3 b)(hl:a.length≤1000){base:Nat}:FV Tp 51 [.p (fS a),.p (fS b)] base (pB (decide (a=b))) []:=by
 by_cases hlen:a.length=b.length
 ·have eqx:∀ i,i<a.length→∃ x y,a[i]? = some x∧b[i]? = some y∧x.length=3∧y.length=3:=fun i hi =>
   ⟨a[i],b[i],kQ0 hi,kQ0 (by omega),ha _ (gS hi),hb _ (gS (by omega))⟩
  rcases aH.find (P:=Tp) (k:=0) (b:=yQ) (fun i=>kY a b i) (fun i _=>dI (kY a b i) [(4,.kb false)]) (kY a b a.length) .ret (.exit 0) (by simp) (by simp) (fun j=>decide (a.getD j []≠b.getD j [])) (List.range a.length)
   (fun i x hx hp=>by
    have hi:i<a.length:=by have:=bC hx;simpa using this
    obtain ⟨y,z,hy,hz,ly,lz⟩:=eqx i hi;obtain ⟨a,b,c,rfl⟩:=len3 ly;obtain ⟨a',b',c',rfl⟩:=len3 lz;have hxi:x=i:=by rw [aRf hi] at hx;exact (Option.some.inj hx).symm
    subst hxi;have he:=of_decide_eq_false hp;simp only [kQ4,hy,hz,Option.getD_some,ne_eq,Classical.not_not] at he
    cases he;exact bEj (by omega) hy ha hz hb ⟨rfl,rfl⟩ (by simp [nX,aFm]) (aO (by omega)) rfl)
   (fun i x hx hp=>by
    have hi:i<a.length:=by have:=bC hx;simpa using this
    obtain ⟨y,z,hy,hz,ly,lz⟩:=eqx i hi;obtain ⟨a,b,c,rfl⟩:=len3 ly;obtain ⟨a',b',c',rfl⟩:=len3 lz;have hxi:x=i:=by rw [aRf hi] at hx;exact (Option.some.inj hx).symm
    subst hxi;have he:=of_decide_eq_true hp;simp only [kQ4,hy,hz,Option.getD_some] at he
    exact bEi (by omega) hy ha hz hb ⟨rfl,rfl⟩ (by
     rw [Bool.eq_false_iff];intro h;simp [nX,aFm] at h
     exact he (by simp [h])))
   (by rw [bMy];exact bEk (by omega)) with ⟨i,x,h1,h2,h3,h4⟩ | ⟨h1,h2,h3⟩
  ·have hi:i<a.length:=by have:=bC h1;simpa using this
   have hxi:x=i:=by rw [aRf hi] at h1;exact (Option.some.inj h1).symm
   have he:=of_decide_eq_true h3;rw [decide_eq_false (fun e=>he (by rw [e]))]
   exact bYo (by omega) h4
  ·have hall:∀ i,i<a.length→a.getD i []=b.getD i []:=fun i hi=>by
    have:=List.any_eq_false.1 h2 i (lH.2 hi);simpa using this
   have e:a=b:=by
    apply List.ext_getElem hlen;intro i h1 h2;have:=hall i h1;simpa [kQ4,kQ0 h1,kQ0 h2] using this
   rw [decide_eq_true e];exact bYn (by omega) h3
 ·rw [decide_eq_false (fun e=>hlen (by rw [e]))]
  exact bYm (by omega)
def kZ(a:List Int)(b:List Int)(i:Nat):St:=⟨fr 26 [(0,(.p (aF a))),(1,(.p (aF b))),(12,(pI (a.length:Int))),(13,(pI (i:Int)))],[]⟩
theorem bYq{a b:List Int}(h0:(a.length:Int)≠(b.length:Int)):FV Tp 41 [(.p (aF a)),(.p (aF b))] base (pB false) []:=by
 exact FV.fi Tryz.func41 [bT] (gc (nB h0) gn)
theorem bYr{a b:List Int}(h0:(a.length:Int)=(b.length:Int))(hl1:aH Tp 0 yR (kZ a b 0) (.exit 0) (kZ a b i'0)):FV Tp 41 [(.p (aF a)),(.p (aF b))] base (pB true) []:=by
 exact FV.fi Tryz.func41 [bF,hl1.k 4 ⟨(rng [(2,10),(14,12)]),[],[],[]⟩] (gc hl1.code (gc (gB h0) gn))
theorem bYs{a b:List Int}(h0:(a.length:Int)=(b.length:Int))(hl1:aH Tp 0 yR (kZ a b 0) .ret (dI (kZ a b i'0) [(4,(.kb false))])):FV Tp 41 [(.p (aF a)),(.p (aF b))] base (pB false) []:=by
 exact FV.fi Tryz.func41 [bF,hl1.k 4 ⟨(rng [(2,10),(14,12)]),[],[],[]⟩] (gc hl1.code (gc (gB h0) gn))
theorem bEl{a b:List Int}(h0:(i:Int)<(a.length:Int))(h1:a[i]? = some x100)(h2:b[i]? = some x101)(h3:x100≠x101):aC Tp 0 yR (kZ a b i) .ret (dI (kZ a b i) [(4,(.kb false))]):=by
 exact aC.fi ⟨(rng [(2,2),(5,7),(14,12)]),[],[],[]⟩ [bT,.x (aB x100),.x (aB x101),bT] (gc (nB h3) (gc (atm aB h2) (gc (ixn aB h2) (gc (atm aB h1) (gc (ixn aB h1) (gc (aV h0) gn))))))
theorem bEm{a b:List Int}(h0:(i:Int)<(a.length:Int))(h1:a[i]? = some x100)(h2:b[i]? = some x101)(h3:x100=x101)(h4:inR (((i+1):Nat):Int))(ei':i'=(i+1)):aC Tp 0 yR (kZ a b i) .normal (kZ a b i'):=by
 subst ei';exact aC.fi ⟨(rng [(2,10),(14,12)]),[],[],[]⟩ [bT,.x (aB x100),.x (aB x101),bF] (gc h4 (gc (gB h3) (gc (atm aB h2) (gc (ixn aB h2) (gc (atm aB h1) (gc (ixn aB h1) (gc (aV h0) gn)))))))
theorem bEn{a b:List Int}(h0:(a.length:Int)≤(i:Int)):aC Tp 0 yR (kZ a b i) (.exit 0) (kZ a b i):=by
 exact aC.fi ⟨(rng [(2,10),(14,12)]),[],[],[]⟩ [bF] (gc (bA h0) gn)
theorem bKy(a b:List Int)(hl:a.length≤1000){base:Nat}:FV Tp 41 [.p (aF a),.p (aF b)] base (pB (decide (a=b))) []:=by
 by_cases hlen:a.length=b.length
 ·rcases aH.find (P:=Tp) (k:=0) (b:=yR) (fun i=>kZ a b i) (fun i _=>dI (kZ a b i) [(4,.kb false)]) (kZ a b a.length) .ret (.exit 0) (by simp) (by simp) (fun j=>decide (a.getD j 0≠b.getD j 0)) (List.range a.length)
   (fun i x hx hp=>by
    have hi:i<a.length:=by have:=bC hx;simpa using this
    have hxi:x=i:=by rw [aRf hi] at hx;exact (Option.some.inj hx).symm
    subst hxi;have h1:a[x]? = some (a.getD x 0):=by rw [kQ4,kQ0 hi];rfl
    have h2:b[x]? = some (b.getD x 0):=by rw [kQ4,kQ0 (by omega)];rfl
    have he:=of_decide_eq_false hp;exact bEm (by omega) h1 h2 (Classical.not_not.1 he) (aO (by omega)) rfl)
   (fun i x hx hp=>by
    have hi:i<a.length:=by have:=bC hx;simpa using this
    have hxi:x=i:=by rw [aRf hi] at hx;exact (Option.some.inj hx).symm
    subst hxi;have h1:a[x]? = some (a.getD x 0):=by rw [kQ4,kQ0 hi];rfl
    have h2:b[x]? = some (b.getD x 0):=by rw [kQ4,kQ0 (by omega)];rfl
    exact bEl (by omega) h1 h2 (of_decide_eq_true hp))
   (by rw [bMy];exact bEn (by omega)) with ⟨i,x,h1,h2,h3,h4⟩ | ⟨h1,h2,h3⟩
  ·have he:=of_decide_eq_true h3
   rw [decide_eq_false (fun e=>he (by rw [e]))]
   exact bYs (by omega) h4
  ·have hall:∀ i,i<a.length→a.getD i 0=b.getD i 0:=fun i hi=>by
    have:=List.any_eq_false.1 h2 i (lH.2 hi);simpa using this
   have e:a=b:=by
    apply List.ext_getElem hlen;intro i h1 h2;have:=hall i h1
    rwa [kQ4,kQ4,kQ0 h1,kQ0 h2] at this
   rw [decide_eq_true e];exact bYr (by omega) h3
 ·rw [decide_eq_false (fun e=>hlen (by rw [e]))]
  exact bYq (by omega)
theorem aKr{a b:Int}:FV Tp 23 [(pI a),(pI b),(pI c)] base (.p (dcE a 0 0 b c 0)) []:=by
 exact FV.fi Tryz.func23 [] gn
theorem iV{a b d e:Int}:FV Tp 49 [(pI a),(pI b),(pI c),(pI d),(pI e)] base (.p (dcE a b d 0 e c)) []:=by
 exact FV.fi Tryz.func49 [] gn
end
section
theorem ofO(l:List Int):FMM Tp 17 [.p (.sl l.length (l.map cM))] [] (.ptr 0 0) [some (jC l 0 17)]:=cBc
def bYe(ns nd:Int)(l:List Int)(nx st:Int)(r:Lqq × Lqq × Int × Int):Prop :=
 bG 30 r.1 r.2.1∧(r.1.length:Int)≤ns∧(r.2.1.length:Int)≤nd∧(0≤r.2.2.1∧r.2.2.1≤4000)∧(r.1.Pairwise fun a b=>a.getD 0 0<b.getD 0 0)∧(r.2.1.Pairwise fun a b=>a.getD 0 0<b.getD 0 0)∧(∀ x∈r.2.1,x.getD 0 0≤80)∧(∀ x∈r.1,x.getD 0 0≤88∧x.getD 1 0≤16000) ∧
  FMM Tp 16 [.ptr 0 0,.p (aB ns),.p (aB nd)] [some (jC l nx st)] (.p (.agg (cR 30 r.1 r.2.1))) [some (jC l r.2.2.1 r.2.2.2)]
open Classical in
noncomputable def aFv(ns nd:Int)(l:List Int)(nx st:Int):Lqq × Lqq × Int × Int:=if h:∃ r,bYe ns nd l nx st r then Classical.choose h else ([],[],0,0)
theorem aOq{ns nd:Int}{l:List Int}{nx st:Int}(hns:1≤ns∧ns≤30)(hnd:0≤nd∧nd≤40)(hnx:0≤nx∧nx≤900):bYe ns nd l nx st (aFv ns nd l nx st):=by
 obtain ⟨sk,dc,mx,tt,h⟩:=bYh (ns:=ns) (nd:=nd) (l:=l) (nx:=nx) (st:=st) hns hnd hnx;have hex:∃ r,bYe ns nd l nx st r:=⟨(sk,dc,mx,tt),h⟩;unfold aFv;rw [dif_pos hex];exact Classical.choose_spec hex
theorem yN{sk dc:Lqq}{nx' st':Int}(ns nd:Int)(l:List Int)(nx st:Int)(h:0≤nx∧nx≤900)(hs:1≤ns∧ns≤30)(hd:0≤nd∧nd≤40)(e:aFv ns nd l nx st=(sk,dc,nx',st')):FMM Tp 16 [.ptr 0 0,.p (aB ns),.p (aB nd)] [some (jC l nx st)] (.p (.agg (cR 30 sk dc))) [some (jC l nx' st')]:=by
 have:=(aOq (l:=l) (st:=st) hs hd h).2.2.2.2.2.2.2.2;rw [e] at this
 exact this
end
section
variable {r101:Bool}{a b c mx tt a'1 b'2 bib c'3 m102 t103 x100 y100 y101 y102:Int}{L:Lqq}{l o op:List Int}{i i' i'0 base:Nat}

noncomputable abbrev aEl:Code:=sub (cd Tryz.f20) [1,1,0,1,0,0]
noncomputable abbrev aEm:Code:=sub (cd Tryz.f25) [1,0,1,0,0]
def lY(op:List Int)(l:List Int)(i:Nat)(on:Nat)(oc:List PV)(mx:Int)(tt:Int):St:=⟨fr 22 [(0,(.ptr 0 0)),(4,(.p dR)),(5,(.own 1)),(8,(.p (aF op))),(9,(pI (op.length:Int))),(10,(pI (i:Int)))],[some (.box 129 [(.p (.sl l.length (l.map cM))),(pI mx),(.p (.v (.int .u32 tt)))]),some (.row 3 on oc)]⟩
theorem bYb{nx st:Int}{o'1:List Int}{mx'2 tt'3:Int}(hl0:aH Tp 1 aEl (lY op l 0 0 [] nx st) (.exit 0) (lY op l i'0 o'1.length (o'1.map aB) mx'2 tt'3)):FMM Tp 20 [(.ptr 0 0),(.p (aF op))] [some (.box 129 [(.p (.sl l.length (l.map cM))),(pI nx),(.p (.v (.int .u32 st)))])] (.own 1) [some (.box 129 [(.p (.sl l.length (l.map cM))),(pI mx'2),(.p (.v (.int .u32 tt'3)))]),some (.row 3 o'1.length (o'1.map aB))]:=by
 exact FMM.fi 1 ⟨[],[1],[],[]⟩ Tryz.func20 [hl0.k 8 ⟨(rng [(1,3),(6,2),(11,10)]),[1],[],[(5,3)]⟩] (gc hl0.code gn)
theorem bDn{o':List Int}(h0:(i:Int)<(op.length:Int))(h1:op[i]? = some x100)(h2:0≤mx∧mx≤1000000000)(h3:iM (2:Int) l mx tt=(r101,m102,t103))(h4:r101=true)(h5:[(aB x100)].length=1*1∧o.length+1≤1000000)(h6:inR (((i+1):Nat):Int))(ei':i'=(i+1))(eo'n:o'.length=(o.length+1))(eo'c:o'.map aB=((o.map aB)++[(aB x100)])):aC Tp 1 aEl (lY op l i o.length (o.map aB) mx tt) .normal (lY op l i' o'.length (o'.map aB) m102 t103):=by
 subst ei';have k1:=mq [0] 2 (tH (2:Int) l mx tt h2 h3);have raw:aC Tp 1 aEl (lY op l i o.length (o.map aB) mx tt) .normal (lY op l (i+1) (o.length+1) ((o.map aB)++[(aB x100)]) m102 t103):=aC.fi ⟨(rng [(1,3),(6,2),(11,10)]),[3],[],[]⟩ [bT,.x (aB x100),k1.o,bT] (gc h6 (gc h5 (gc h4 (gc k1 (gc (atm aB h1) (gc (ixn aB h1) (gc (aV h0) gn)))))));exact raw.cast (by rw [eo'n,eo'c])
theorem bDo(h0:(i:Int)<(op.length:Int))(h1:op[i]? = some x100)(h2:0≤mx∧mx≤1000000000)(h3:iM (2:Int) l mx tt=(r101,m102,t103))(h4:r101=false)(h5:inR (((i+1):Nat):Int))(ei':i'=(i+1)):aC Tp 1 aEl (lY op l i o.length (o.map aB) mx tt) .normal (lY op l i' o.length (o.map aB) m102 t103):=by
 subst ei';have k1:=mq [0] 2 (tH (2:Int) l mx tt h2 h3);exact aC.fi ⟨(rng [(1,3),(6,2),(11,10)]),[1],[],[]⟩ [bT,.x (aB x100),k1.o,bF] (gc h5 (gc h4 (gc k1 (gc (atm aB h1) (gc (ixn aB h1) (gc (aV h0) gn))))))
theorem bDp(h0:(op.length:Int)≤(i:Int)):aC Tp 1 aEl (lY op l i o.length (o.map aB) mx tt) (.exit 0) (lY op l i o.length (o.map aB) mx tt):=by
 exact aC.fi ⟨(rng [(1,3),(6,2),(11,10)]),[1],[],[]⟩ [bF] (gc (bA h0) gn)
def kG(L:Lqq)(bib:Int)(i:Nat)(a:Int)(b:Int)(c:Int):St:=⟨fr 20 [(1,(pI bib)),(4,(.ptr 0 0)),(7,(.p (fS L))),(8,(pI (L.length:Int))),(9,(pI (i:Int)))],[some (.box 48 [(pI a),(pI b),(pI c)])]⟩
theorem bYc(hl0:aH Tp 0 aEm (kG L bib 0 (0:Int) (0:Int) (0:Int)) (.exit 0) (kG L bib i'0 a'1 b'2 c'3)):FV Tp 25 [(.p (fS L)),(pI bib)] base (.p (.agg [(aB 0),(aB 0),(aB 0)])) []:=by
 exact FV.fi Tryz.func25 [hl0.k 6 ⟨(rng [(0,1),(2,2),(5,2),(10,9)]),[0],[],[]⟩] (gc hl0.code gn)
theorem bYd(hl0:aH Tp 0 aEm (kG L bib 0 (0:Int) (0:Int) (0:Int)) .ret (kG L bib i'0 a'1 b'2 c'3)):FV Tp 25 [(.p (fS L)),(pI bib)] base (.p (.agg [(aB a'1),(aB b'2),(aB c'3)])) []:=by
 exact FV.fi Tryz.func25 [hl0.k 6 ⟨(rng [(0,1),(2,2),(5,2),(10,9)]),[0],[],[]⟩] (gc hl0.code gn)
theorem bDq(h0:(i:Int)<(L.length:Int))(h1:L[i]? = some [y100,y101,y102])(h2:uni 3 L)(h3:y100=bib):aC Tp 0 aEm (kG L bib i a b c) .ret (kG L bib i y100 y101 y102):=by
 exact aC.fi ⟨(rng [(0,1),(2,2),(5,2),(10,9)]),[0],[],[]⟩ [bT,.x (.agg [(aB y100),(aB y101),(aB y102)]),bT] (gc (dX h3) (gc (aT (i:=i) h2 h1) (gc (bH (i:=i) h2 h1) (gc (bR (k:=3) (i:=(i:Int)) (by decide) h2 (kQ1 _) h1) (gc (aV h0) gn)))))
theorem bDr(h0:(i:Int)<(L.length:Int))(h1:L[i]? = some [y100,y101,y102])(h2:uni 3 L)(h3:y100≠bib)(h4:inR (((i+1):Nat):Int))(ei':i'=(i+1)):aC Tp 0 aEm (kG L bib i a b c) .normal (kG L bib i' a b c):=by
 subst ei';exact aC.fi ⟨(rng [(0,1),(2,2),(5,2),(10,9)]),[0],[],[]⟩ [bT,.x (.agg [(aB y100),(aB y101),(aB y102)]),bF] (gc h4 (gc (bJ h3) (gc (aT (i:=i) h2 h1) (gc (bH (i:=i) h2 h1) (gc (bR (k:=3) (i:=(i:Int)) (by decide) h2 (kQ1 _) h1) (gc (aV h0) gn))))))
theorem bDs(h0:(L.length:Int)≤(i:Int)):aC Tp 0 aEm (kG L bib i a b c) (.exit 0) (kG L bib i a b c):=by
 exact aC.fi ⟨(rng [(0,1),(2,2),(5,2),(10,9)]),[0],[],[]⟩ [bF] (gc (bA h0) gn)
end
section
def lL(l:List Int)(a:List Int × Int × Int)(x:Int):List Int × Int × Int:=(if (iM 2 l a.2.1 a.2.2).1 then a.1++[x] else a.1,(iM 2 l a.2.1 a.2.2).2)
def zZ(op l:List Int)(nx st:Int):List Int × Int × Int:=op.foldl (lL l) ([],nx,st)
theorem aOp(l:List Int):∀ (op:List Int) (a:List Int × Int × Int),∃ r,r.Sublist op∧(op.foldl (lL l) a).1=a.1++r∧a.2.1≤(op.foldl (lL l) a).2.1∧(op.foldl (lL l) a).2.1≤a.2.1+(op.length:Int)
 | [],a=>⟨[],.slnil,by simp,by simp,by simp⟩
 | x::op,a=>by
  obtain ⟨r,h1,h2,h3,h4⟩:=aOp l op (lL l a x);have hc:=wW 2 l a.2.1 a.2.2;rw [rU,qZ];have e1:(lL l a x).2.1=(iM 2 l a.2.1 a.2.2).2.1:=rfl;rw [e1] at h3 h4
  cases hb:(iM 2 l a.2.1 a.2.2).1 with
  | true =>
   have e2:(lL l a x).1=a.1++[x]:=by unfold lL;rw [hb];rfl
   rw [e2] at h2
   exact ⟨x::r,List.Sublist.cons_cons x h1,by rw [h2];simp,by omega,by omega⟩
  | false =>
   have e2:(lL l a x).1=a.1:=by unfold lL;rw [hb];rfl
   rw [e2] at h2
   exact ⟨r,h1.cons x,h2,by omega,by omega⟩
theorem aUh(op l:List Int)(nx st:Int):(zZ op l nx st).1.Sublist op∧nx≤(zZ op l nx st).2.1∧(zZ op l nx st).2.1≤nx+(op.length:Int):=by
 obtain ⟨r,h1,h2,h3,h4⟩:=aOp l op ([],nx,st);rw [List.nil_append] at h2
 unfold zZ;rw [h2];exact ⟨h1,h3,h4⟩
theorem bKw{r:List Int}{nx' st':Int}(op l:List Int)(nx st:Int)(h:0≤nx∧nx≤1000000)(hl:op.length≤1000)(e:zZ op l nx st=(r,nx',st')):FMM Tp 20 [.ptr 0 0,.p (aF op)] [some (jC l nx st)] (.own 1) [some (jC l nx' st'),some (.row 3 r.length (r.map aB))]:=by
 have hL:=aH.range (P:=Tp) (k:=1) (b:=sub (cd Tryz.f20) [1,1,0,1,0,0]) (e := .exit 0) (fun i (a:List Int × Int × Int)=>lY op l i a.1.length (a.1.map aB) a.2.1 a.2.2) (fun a=>lY op l op.length a.1.length (a.1.map aB) a.2.1 a.2.2) (lL l) (fun i a=>a.1.length≤i∧0≤a.2.1∧a.2.1≤nx+(i:Int)) (by simp) op (a0:=([],nx,st)) ⟨by simp,h.1,by simp⟩
  (fun i x a hx hI=>by
   obtain ⟨h1,h2,h3⟩:=hI;have hi:=bC hx;have hc:=wW 2 l a.2.1 a.2.2;have hs2:(lL l a x).2=(iM 2 l a.2.1 a.2.2).2:=rfl;cases hb:(iM 2 l a.2.1 a.2.2).1 with
   | true =>
    have e2:(lL l a x).1=a.1++[x]:=by unfold lL;rw [hb];rfl
    rw [hs2,e2];exact ⟨⟨by simp;omega,by omega,by omega⟩,bDn (r101:=(iM 2 l a.2.1 a.2.2).1) (by omega) hx (by omega) rfl hb ⟨rfl,by omega⟩ (aO (by omega)) rfl (by simp) (by simp)⟩
   | false =>
    have e2:(lL l a x).1=a.1:=by unfold lL;rw [hb];rfl
    rw [hs2,e2];exact ⟨⟨by omega,by omega,by omega⟩,bDo (r101:=(iM 2 l a.2.1 a.2.2).1) (by omega) hx (by omega) rfl hb (aO (by omega)) rfl⟩)
  (fun a hI=>bDp (by omega))
 have e':op.foldl (lL l) ([],nx,st)=(r,nx',st'):=e;rw [e'] at hL
 exact bYb hL
def kN(L:Lqq)(bib:Int):List Int:=(L.find? fun y=>decide (y.getD 0 0=bib)).getD [0,0,0]
theorem oN{a b c:Int}(L:Lqq)(bib:Int)(hu:uni 3 L)(hl:L.length≤1000)(e:kN L bib=[a,b,c]){base:Nat}:FV Tp 25 [.p (.sl L.length (L.flatten.map aB)),.p (aB bib)] base (.p (.agg [aB a,aB b,aB c])) []:=by
 have key:∀ (d i:Nat),i+d=L.length→(L.drop i).find? (fun y=>decide (y.getD 0 0=bib))=L.find? (fun y=>decide (y.getD 0 0=bib)) →
   (∃ i' y0 y1 y2,L.find? (fun y=>decide (y.getD 0 0=bib))=some [y0,y1,y2]∧aH Tp 0 (sub (cd Tryz.f25) [1,0,1,0,0]) (kG L bib i 0 0 0) .ret (kG L bib i' y0 y1 y2)) ∨
   (∃ i',L.find? (fun y=>decide (y.getD 0 0=bib))=none∧aH Tp 0 (sub (cd Tryz.f25) [1,0,1,0,0]) (kG L bib i 0 0 0) (.exit 0) (kG L bib i' 0 0 0)):=by
  intro d
  induction d with
  | zero =>
   intro i hi hf;refine .inr ⟨i,?_,.exit (bDs (by omega)) (by simp)⟩
   rw [← hf,List.drop_eq_nil_of_le (by omega)];rfl
  | succ d ih =>
   intro i hi hf;have hlt:i<L.length:=by omega
   obtain ⟨y0,y1,y2,hy⟩:=len3 (hu _ (gS hlt));have hx:L[i]? = some [y0,y1,y2]:=by rw [kQ0 hlt,hy]
   have hd:L.drop i=[y0,y1,y2]::L.drop (i+1):=by rw [aZb hlt,hy]
   rw [hd,List.find?_cons] at hf
   by_cases hb:y0=bib
   ·rw [show decide (([y0,y1,y2]:List Int).getD 0 0=bib)=true from decide_eq_true hb] at hf
    exact .inl ⟨i,y0,y1,y2,hf.symm,.exit (bDq (by omega) hx hu hb) (by simp)⟩
   ·rw [show decide (([y0,y1,y2]:List Int).getD 0 0=bib)=false from decide_eq_false hb] at hf
    have hst:=bDr (L:=L) (bib:=bib) (i:=i) (i':=i+1) (a:=0) (b:=0) (c:=0) (by omega) hx hu hb (aO (by omega)) rfl
    rcases ih (i+1) (by omega) hf with ⟨i',z0,z1,z2,q1,q2⟩ | ⟨i',q1,q2⟩
    ·exact .inl ⟨i',z0,z1,z2,q1,.step hst q2⟩
    ·exact .inr ⟨i',q1,.step hst q2⟩
 unfold kN at e
 rcases key L.length 0 (by omega) (by simp) with ⟨i',y0,y1,y2,q1,q2⟩ | ⟨i',q1,q2⟩
 ·rw [q1] at e
  obtain ⟨rfl,rfl,rfl⟩:y0=a∧y1=b∧y2=c:=by simpa using e
  exact bYd q2
 ·rw [q1] at e
  obtain ⟨rfl,rfl,rfl⟩:(0:Int)=a∧(0:Int)=b∧(0:Int)=c:=by simpa using e
  exact bYc q2
end
section

theorem aDq:∀ l:List Int,yZ (l.map aB)=true
 | []=>rfl
 | x::r=>aDq r
theorem aHi{id ty n:Nat}{l:List Int}:aLm [(id,.row ty n (l.map aB))]=true:=by
 show (match yZ (l.map aB) with | true=>aLm [] | false=>false)=true
 rw [aDq];rfl
end
section

end
end KV
end Go.Proofs
