/- Parts of the proof of JOutcomes: laws of walks, contracts of functions, plain models. No condition. -/
import Derived.Test.YtgejpbmanhlkcaaGreatPJOutcomesE
set_option linter.unusedVariables false
set_option linter.unusedSimpArgs false
set_option maxRecDepth 100000
namespace Go.Proofs
namespace KV
open Tryz
section
section
variable {dl:Int} {sk dc:Lqq}
theorem vZ(j:Nat):(if (j:Int) > (0:Int) then (j:Int) else (0:Int)).toNat=j∧0≤(if (j:Int) > (0:Int) then (j:Int) else (0:Int)):=by
 split <;> omega
theorem bWa(hr:bO dl sk dc)(h8:(aJ dl (aA dc)).length≤8){i:Nat}{t Bv:Int}{fb:Bool}{f:aV}{si:List Int}(hi:(aA sk)[i]? = some si)(hf:f∈(hpM dl (aA dc) si).1)(hb : -100000≤Bv∧Bv≤100000) :
  ∃ mo,aD Tp 0 (sub (cd Tryz.f72) bm) (eK dl sk dc i t fb f.2.2 0 f.2.2.length (f.2.2.map aB) Bv) (.exit 2)
   (eK dl sk dc i t fb f.2.2 (aG dl (aA sk) (aA dc)).length (gU (aG dl (aA sk) (aA dc)) i t Bv f.2.2 (aA sk).length).1.length ((gU (aG dl (aA sk) (aA dc)) i t Bv f.2.2 (aA sk).length).1.map aB) mo):=by
 have hal:(aG dl (aA sk) (aA dc)).length=(aA sk).length:=kN ..;have hsl:(aA sk).length≤30:=by rw [dC];exact hr.len.2
 obtain ⟨⟨o,mo⟩,⟨hI,_⟩,hL⟩:=aD.ex (P:=Tp) (k:=0) (b:=sub (cd Tryz.f72) bm) (e := .exit 2)
  (fun k (a:List Int × Int)=>eK dl sk dc i t fb f.2.2 k a.1.length (a.1.map aB) a.2) (fun a=>eK dl sk dc i t fb f.2.2 (aG dl (aA sk) (aA dc)).length a.1.length (a.1.map aB) a.2)
  (fun k a=>a=gU (aG dl (aA sk) (aA dc)) i t Bv f.2.2 k ∧ -100000-(k:Int)≤a.2∧a.2≤100000) (by simp) (aA sk).length
  (fun k a hk hI=>by
   obtain ⟨o,mo⟩:=a;obtain ⟨h1,h2,h3⟩:=hI;dsimp only at h2 h3
   have hs:(aA sk)[k]? = some (aA sk)[k]:=Ay hk;have hat:=jX (dl:=dl) (dc:=aA dc) hs;have hcl:=uS (dl:=dl) (dc:=aA dc) (s0:=(aA sk)[k].getD 0 0) (s1:=(aA sk)[k].getD 1 0) ((aA sk)[k].getD 0 0) h8;have hne:=bCz (dl:=dl) (aA dc) (aA sk)[k];have hol:o.length≤8*31:=by
    have:=(wA hr hi hf (t:=t) (Bv:=Bv) k (by omega)).2
    rw [← h1] at this
    have h4:(aJ dl (aA dc)).length*k≤8*30:=Nat.mul_le_mul h8 (by omega)
    dsimp only at this
    omega
   have Lx:inR (((k+1):Nat):Int):=aI (by omega)
   have hkl:(k:Int)<((aG dl (aA sk) (aA dc)).length:Int):=by rw [hal];omega
   have hstep:gU (aG dl (aA sk) (aA dc)) i t Bv f.2.2 (k+1)=if k=i then (o,mo) else (o++(gT t (jJ t mo (hpM dl (aA dc) (aA sk)[k])) (hpM dl (aA dc) (aA sk)[k]).1).2.2,moM t mo (hpM dl (aA dc) (aA sk)[k])):=by
    conv=>lhs;unfold gU
    rw [hat,← h1]
   by_cases hki:k=i
   ·refine ⟨(o,mo),⟨by rw [hstep,if_pos hki],by dsimp only;omega,h3⟩,?_⟩
    exact bPm hkl hat (by omega) Lx rfl
   ·rw [if_neg hki] at hstep
    have Ic:(k:Int)≠(i:Int):=by omega
    have hq:∀ le,(gT t le (hpM dl (aA dc) (aA sk)[k]).1).2.2.length≤8:=fun le=>by
     have hm:=(qQ (bCy t le hne)).2.trans (aDw dl (aA dc) ((aA sk)[k].getD 0 0));have:=hm.length_le;omega
    have hap:∀ q:List Int,(o++q).length=o.length+q.length∧(o++q).map aB=o.map aB++q.map aB:=fun q=>⟨iJ,iA⟩
    have hqm:∀ q:List Int,(q.map aB).length=q.length*1:=fun q=>by simp
    revert hat hcl hne hstep hq;show (aG dl (aA sk) (aA dc))[k]? = some (hpM dl (aA dc) (aA sk)[k])→(hpM dl (aA dc) (aA sk)[k]).1.length≤256→_;generalize hpM dl (aA dc) (aA sk)[k]=h;obtain ⟨c,mn,mx⟩:=h;intro hat hcl hne hstep hq;dsimp only at hcl hne hq
    have Js:c.length≤1000:=by omega
    by_cases c1:mx<t
    ·have el:jJ t mo (c,mn,mx)=decide (mx<t):=by unfold jJ;rw [decide_eq_true (show (c,mn,mx).2.2<t from c1),Bool.true_or]
     have em:moM t mo (c,mn,mx)=mo:=by unfold moM;rw [if_pos (show (c,mn,mx).2.2<t from c1)]
     rw [el,em] at hstep
     have hq:=hq (decide (mx<t));refine ⟨_,⟨hstep.symm,by dsimp only;omega,h3⟩,?_⟩
     rcases mE t (decide (mx<t)) hne with ⟨j,q1,q2,_⟩ | ⟨q1,q2,_⟩
     ·obtain ⟨z1,z2⟩:=vZ j
      rcases hp:gT t (decide (mx<t)) c with ⟨a1,a2,a3⟩
      rw [hp] at q2 hq
      exact bPt hkl hat Ic c1 Js q1 (by rw [z1];exact q2) z2 ⟨hqm _,by have hq:a3.length≤8:=hq;show o.length+a3.length≤1000000;omega⟩ Lx rfl (hap _).1 (hap _).2
     ·rcases hp:gT t (decide (mx<t)) c with ⟨a1,a2,a3⟩
      rw [hp] at q2 hq
      exact bPu hkl hat Ic c1 Js q1 q2 (by decide) ⟨hqm _,by have hq:a3.length≤8:=hq;show o.length+a3.length≤1000000;omega⟩ Lx rfl (hap _).1 (hap _).2
    ·by_cases c2:mn<t
     ·by_cases c3:0<mo
      ·have el:jJ t mo (c,mn,mx)=true:=by unfold jJ;rw [decide_eq_true (show (c,mn,mx).2.1<t from c2),decide_eq_true c3];simp
       have em:moM t mo (c,mn,mx)=mo-1:=by unfold moM;rw [if_neg (show ¬ (c,mn,mx).2.2<t from c1),if_pos (show (c,mn,mx).2.1<t from c2),if_pos c3]
       rw [el,em] at hstep
       have hq:=hq true;refine ⟨_,⟨hstep.symm,by dsimp only;omega,by dsimp only;omega⟩,?_⟩
       rcases mE t true hne with ⟨j,q1,q2,_⟩ | ⟨q1,q2,_⟩
       ·obtain ⟨z1,z2⟩:=vZ j
        rcases hp:gT t true c with ⟨a1,a2,a3⟩
        rw [hp] at q2 hq
        exact bPn hkl hat Ic (by omega) c2 c3 (by show _∧_;omega) Js q1 (by rw [z1];exact q2) z2 ⟨hqm _,by have hq:a3.length≤8:=hq;show o.length+a3.length≤1000000;omega⟩ Lx rfl (hap _).1 (hap _).2 rfl
       ·rcases hp:gT t true c with ⟨a1,a2,a3⟩
        rw [hp] at q2 hq
        exact bPo hkl hat Ic (by omega) c2 c3 (by show _∧_;omega) Js q1 q2 (by decide) ⟨hqm _,by have hq:a3.length≤8:=hq;show o.length+a3.length≤1000000;omega⟩ Lx rfl (hap _).1 (hap _).2 rfl
      ·have el:jJ t mo (c,mn,mx)=decide (mx<t):=by unfold jJ;rw [decide_eq_false c3,Bool.and_false,Bool.or_false]
       have em:moM t mo (c,mn,mx)=mo:=by unfold moM;rw [if_neg (show ¬ (c,mn,mx).2.2<t from c1),if_pos (show (c,mn,mx).2.1<t from c2),if_neg c3]
       rw [el,em] at hstep
       have hq:=hq (decide (mx<t));refine ⟨_,⟨hstep.symm,by dsimp only;omega,h3⟩,?_⟩
       rcases mE t (decide (mx<t)) hne with ⟨j,q1,q2,_⟩ | ⟨q1,q2,_⟩
       ·obtain ⟨z1,z2⟩:=vZ j
        rcases hp:gT t (decide (mx<t)) c with ⟨a1,a2,a3⟩
        rw [hp] at q2 hq
        exact bPp hkl hat Ic (by omega) c2 (by omega) Js q1 (by rw [z1];exact q2) z2 ⟨hqm _,by have hq:a3.length≤8:=hq;show o.length+a3.length≤1000000;omega⟩ Lx rfl (hap _).1 (hap _).2
       ·rcases hp:gT t (decide (mx<t)) c with ⟨a1,a2,a3⟩
        rw [hp] at q2 hq
        exact bPq hkl hat Ic (by omega) c2 (by omega) Js q1 q2 (by decide) ⟨hqm _,by have hq:a3.length≤8:=hq;show o.length+a3.length≤1000000;omega⟩ Lx rfl (hap _).1 (hap _).2
     ·have el:jJ t mo (c,mn,mx)=decide (mx<t):=by unfold jJ;rw [decide_eq_false (show ¬ (c,mn,mx).2.1<t from c2),Bool.false_and,Bool.or_false]
      have em:moM t mo (c,mn,mx)=mo:=by unfold moM;rw [if_neg (show ¬ (c,mn,mx).2.2<t from c1),if_neg (show ¬ (c,mn,mx).2.1<t from c2)]
      rw [el,em] at hstep
      have hq:=hq (decide (mx<t));refine ⟨_,⟨hstep.symm,by dsimp only;omega,h3⟩,?_⟩
      rcases mE t (decide (mx<t)) hne with ⟨j,q1,q2,_⟩ | ⟨q1,q2,_⟩
      ·obtain ⟨z1,z2⟩:=vZ j
       rcases hp:gT t (decide (mx<t)) c with ⟨a1,a2,a3⟩
       rw [hp] at q2 hq
       exact bPr hkl hat Ic (by omega) (by omega) Js q1 (by rw [z1];exact q2) z2 ⟨hqm _,by have hq:a3.length≤8:=hq;show o.length+a3.length≤1000000;omega⟩ Lx rfl (hap _).1 (hap _).2
      ·rcases hp:gT t (decide (mx<t)) c with ⟨a1,a2,a3⟩
       rw [hp] at q2 hq
       exact bPs hkl hat Ic (by omega) (by omega) Js q1 q2 (by decide) ⟨hqm _,by have hq:a3.length≤8:=hq;show o.length+a3.length≤1000000;omega⟩ Lx rfl (hap _).1 (hap _).2)
  (fun a _=>by
   have:=bPv (dl:=dl) (sk:=sk) (dc:=dc) (i0:=i) (Av:=t) (B6:=fb) (B2:=f.2.2) (k:=(aA sk).length) (o:=a.1) (mo:=a.2) (by rw [hal];omega)
   rw [← hal] at this ⊢
   exact this) (acc:=(f.2.2,Bv)) ⟨rfl,by dsimp only;omega,hb.2⟩
 have e1:(gU (aG dl (aA sk) (aA dc)) i t Bv f.2.2 (aA sk).length).1=o:=by rw [← hI]
 rw [e1];exact ⟨mo,hL⟩
theorem aTg(hr:bO dl sk dc){i:Nat}{pl:Int}{c:List aV}(hc:c.length≤256) :
  (c.find? (aIm (aG dl (aA sk) (aA dc)) i pl)=none∧aD Tp 0 (sub (cd Tryz.f72) cz) (fU dl sk dc pl i c 0) (.exit 0) (fU dl sk dc pl i c c.length)) ∨
  (∃ f j,c.find? (aIm (aG dl (aA sk) (aA dc)) i pl)=some f∧aD Tp 0 (sub (cd Tryz.f72) cz) (fU dl sk dc pl i c 0) (.exit 0) (bWc (fU dl sk dc pl i c j) 0 (some (.box 191 [(.rp [(aB f.1),(blP f.2.1),(aF f.2.2)] 0)])))):=by
 have hal:(aG dl (aA sk) (aA dc)).length=(aA sk).length:=kN ..;have hsl:(aA sk).length≤30:=by rw [dC];exact hr.len.2
 have hsp:∀ t,(bR (aG dl (aA sk) (aA dc)) i t).1≤(aA sk).length∧(bR (aG dl (aA sk) (aA dc)) i t).2≤(aA sk).length:=fun t=>by
  rw [← hal];exact lJ ..
 rcases aD.find (P:=Tp) (k:=0) (b:=sub (cd Tryz.f72) cz) (fun j=>fU dl sk dc pl i c j) (fun j f=>bWc (fU dl sk dc pl i c j) 0 (some (.box 191 [(.rp [(aB f.1),(blP f.2.1),(aF f.2.2)] 0)]))) (fU dl sk dc pl i c c.length) (.exit 0) (.exit 0) (by simp) (by simp) (aIm (aG dl (aA sk) (aA dc)) i pl) c
  (fun j x hx hq=>by
   have hj:=aM hx;obtain ⟨t,b,q⟩:=x;have hs:=hsp t;unfold aIm at hq
   cases b with
   | true =>
    dsimp only at hq
    rw [if_pos rfl] at hq
    exact bPi (by omega) hx rfl (of_decide_eq_false hq) (aI (by omega)) rfl
   | false =>
    dsimp only at hq
    rw [if_neg Bool.false_ne_true] at hq
    exact bPk (A0:=t) (by omega) hx rfl (by omega) (aI (by omega)) (aI (by omega)) hq (aI (by omega)) rfl)
  (fun j x hx hq=>by
   have hj:=aM hx;obtain ⟨t,b,q⟩:=x;have hs:=hsp t;unfold aIm at hq
   cases b with
   | true =>
    dsimp only at hq
    rw [if_pos rfl] at hq
    exact bPh (by omega) hx rfl (of_decide_eq_true hq)
   | false =>
    dsimp only at hq
    rw [if_neg Bool.false_ne_true] at hq
    exact bPj (A0:=t) (by omega) hx rfl (by omega) (aI (by omega)) (aI (by omega)) hq)
  (bPl (by omega)) with ⟨j,x,h1,h2,h3,h4⟩ | ⟨h1,h2,h3⟩
 ·refine .inr ⟨x,j,?_,h4⟩
  obtain ⟨hj,q1,q2⟩:=List.findIdx?_eq_some_iff_getElem.1 h2;have hxe:c[j]=x:=(Ca.1 h1).2;rw [List.find?_eq_some_iff_getElem];exact ⟨h3,j,hj,hxe,fun k hk=>by
   have:=q2 k hk;simpa using this⟩
 ·exact .inl ⟨aCz.2 fun x hx=>by
   have:=List.findIdx?_eq_none_iff.1 h1 x hx;rw [this];exact Bool.false_ne_true,h3⟩
theorem cNa(hr:bO dl sk dc){bib:Int}{i:Nat}{s0 s1:Int}(hp:oI (aA sk) bib=(i:Int))(hs:(aA sk)[i]? = some [s0,s1])(h8:(aJ dl (aA dc)).length≤8){pl:Int}(hpl : -1≤pl∧pl≤1000) :
  (zV (aG dl (aA sk) (aA dc)) i pl (hpM dl (aA dc) [s0,s1]).1=none→∀ base,FV Tp 72 [.p (.agg (bC dl sk dc)),.p (aB bib),.p (aB pl)] base (.tup [.p cC,.p (aB 6)]) []) ∧
  (∀ o,zV (aG dl (aA sk) (aA dc)) i pl (hpM dl (aA dc) [s0,s1]).1=some o→∀ base,FV Tp 72 [.p (.agg (bC dl sk dc)),.p (aB bib),.p (aB pl)] base (.tup [.p (aF o),.p (aB 0)]) []):=by
 have hat:=jX (dl:=dl) (dc:=aA dc) hs;have hat:(aG dl (aA sk) (aA dc))[i]? = some ((hpM dl (aA dc) [s0,s1]).1,(hpM dl (aA dc) [s0,s1]).2.1,(hpM dl (aA dc) [s0,s1]).2.2):=hat;have hcl:=uS (dl:=dl) (dc:=aA dc) (s0:=s0) (s1:=s1) s0 h8;have hcl:(hpM dl (aA dc) [s0,s1]).1.length≤256:=hcl;have hal:(aG dl (aA sk) (aA dc)).length=(aA sk).length:=kN ..;have hsl:(aA sk).length≤30:=by rw [dC];exact hr.len.2
 unfold zV
 rcases aTg (i:=i) (pl:=pl) hr hcl with ⟨h1,h2⟩ | ⟨f,j,h1,h2⟩
 ·rw [h1]
  exact ⟨fun _ base=>bWe hr hp hs h8 hat h2,fun o ho=>(by cases ho)⟩
 ·rw [h1]
  refine ⟨fun h=>(by cases h),fun o ho base => ?_⟩
  cases ho;have hf:=rD h1;have hsub:=(qQ hf).2.trans (aDw dl (aA dc) _);have hql:=hsub.length_le;have hsp:(bR (aG dl (aA sk) (aA dc)) i f.1).1≤(aA sk).length:=by rw [← hal];exact (lJ ..).1
  obtain ⟨mo,hw⟩:=bWa hr h8 (t:=f.1) (Bv:=pl-1-((bR (aG dl (aA sk) (aA dc)) i f.1).1:Int)) (fb:=f.2.1) hs hf (by omega)
  have hol:=(wA hr hs hf (t:=f.1) (Bv:=pl-1-((bR (aG dl (aA sk) (aA dc)) i f.1).1:Int)) (aA sk).length (dF _)).2;have h4:(aJ dl (aA dc)).length*(aA sk).length≤8*30:=Nat.mul_le_mul h8 hsl;have:=cNf (pl:=pl) hr hp hs h8 hat h2 (by omega) (by omega) (by show _∧_;omega) (by show _∧_;omega) hw (by omega) (base:=base)
  unfold zU;rw [hal];exact this
theorem cCm{f:List Int→Int × Bool}{S:Lqq}{k:List Int}(h:(f k).2=true):fG f S k = -1:=by
 unfold fG;rw [h,if_pos rfl]
theorem cNb{f:List Int→Int × Bool}{S:Lqq}{k:List Int}{t:Int}(h:(f k).2=false)(ht:(f k).1=t):fG f S k=1+(oT f S t:Int):=by
 unfold fG;rw [h,if_neg Bool.false_ne_true,ht]
theorem aTh(hr:bO dl sk dc){i:Nat}{s:List Int}(hs:(aA sk)[i]? = some s){pl:Int}(h:zV (aG dl (aA sk) (aA dc)) i pl (hpM dl (aA dc) s).1=none):¬ (pl = -1∧((hpM dl (aA dc) s).1.any fun x=>x.2.1)=true)∧pl∉jQ (aG dl (aA sk) (aA dc)) i (hpM dl (aA dc) s).1:=by
 unfold zV at h
 have h1:=aCz.1 (Option.map_eq_none_iff.1 h);refine ⟨fun ⟨q1,q2⟩ => ?_,fun q => ?_⟩
 ·obtain ⟨x,hx,ho⟩:=List.any_eq_true.1 q2
  have:=h1 x hx;unfold aIm at this
  rw [ho,if_pos rfl,decide_eq_true q1] at this
  exact this rfl
 ·obtain ⟨x,hx,ho,q1,q2⟩:=aDz.1 q
  have:=h1 x hx;unfold aIm at this
  rw [ho,if_neg Bool.false_ne_true] at this
  exact this (bW.2 (by omega))
theorem aTi(hr:bO dl sk dc)(h8:(aJ dl (aA dc)).length≤8){i:Nat}{s:List Int}(hs:(aA sk)[i]? = some s){pl:Int}{o:List Int}(h:zV (aG dl (aA sk) (aA dc)) i pl (hpM dl (aA dc) s).1=some o) :
  ((pl = -1∧((hpM dl (aA dc) s).1.any fun x=>x.2.1)=true)∨(pl ≠ -1∧pl∈jQ (aG dl (aA sk) (aA dc)) i (hpM dl (aA dc) s).1))∧sX dl (aA dc) o=0∧o.length≤1000∧fG (fun s=>cA dl o (aA dc) (sB s) (sT s)) (aA sk) s=pl:=by
 unfold zV at h
 obtain ⟨f,h1,rfl⟩:=lM.1 h;have hf:=rD h1;have hfb:=aMr h1;have hd:=dA hr;have hal:(aG dl (aA sk) (aA dc)).length=(aA sk).length:=kN ..;have hsl:(aA sk).length≤30:=by rw [dC];exact hr.len.2
 obtain ⟨n1,n2⟩:=wA hr hs hf (t:=f.1) (Bv:=pl-1-((bR (aG dl (aA sk) (aA dc)) i f.1).1:Int)) (aA sk).length (dF _);have hm:=fun n=>aDx (dl:=dl) (sk:=sk) (dc:=dc) (i:=i) (t:=f.1) (Bv:=pl-1-((bR (aG dl (aA sk) (aA dc)) i f.1).1:Int)) (f:=f) (n:=n) (aA sk).length (dF _)
 have ht:=fun {k:Nat} {s':List Int} (hk:(aA sk)[k]? = some s')=>cCn hr hs hf (t:=f.1) (Bv:=pl-1-((bR (aG dl (aA sk) (aA dc)) i f.1).1:Int)) hk
 have hcnt:=fun (a:f.1≤far) (b:0≤pl-1-((bR (aG dl (aA sk) (aA dc)) i f.1).1:Int)) o ho=>bDa (o:=o) hr hs hf (t:=f.1) (Bv:=pl-1-((bR (aG dl (aA sk) (aA dc)) i f.1).1:Int)) rfl a b ho (aA sk).length (dF _)
 have hout:sX dl (aA dc) ((zU (aG dl (aA sk) (aA dc)) i pl f).mergeSort KL.leB)=0:=by
  refine cCo (cCp ?_) fun n hn => ?_
  ·unfold zU;rw [hal];exact n1
  ·have hn:=(List.mergeSort_perm _ _).mem_iff.1 hn
   unfold zU at hn
   rw [hal] at hn
   rcases (hm n).1 hn with q | ⟨k,q1,q2,q3⟩
   ·exact (aOx ((qQ hf).2.subset q)).1
   ·exact (aOy hs hf (Ay q1) q3).1
 have hlen:((zU (aG dl (aA sk) (aA dc)) i pl f).mergeSort KL.leB).length≤1000:=by
  rw [bWz];unfold zU;rw [hal];have h4:(aJ dl (aA dc)).length*(aA sk).length≤8*30:=Nat.mul_le_mul h8 hsl;omega
 have efi:∀ Bv,chG (aG dl (aA sk) (aA dc)) i f.1 Bv f i=f:=fun Bv=>by unfold chG;rw [if_pos rfl]
 have hfc:=(qQ hf).1;have htf:=ht hs;rw [efi] at htf
 have eO:zU (aG dl (aA sk) (aA dc)) i pl f=(gU (aG dl (aA sk) (aA dc)) i f.1 (pl-1-((bR (aG dl (aA sk) (aA dc)) i f.1).1:Int)) f.2.2 (aA sk).length).1:=by unfold zU;rw [hal]
 rw [← eO] at htf
 have hoF:f.2.1=(cA dl f.2.2 (aA dc) (sB s) (sT s)).2:=congrArg (fun y:aV=>y.2.1) hfc
 have hvF:f.1=mT dl (aA dc) f.2.2 s:=congrArg (fun y:aV=>y.1) hfc
 unfold aIm at hfb
 cases ho:f.2.1 with
 | true =>
  rw [ho,if_pos rfl] at hfb
  have hpl:=of_decide_eq_true hfb;refine ⟨.inl ⟨hpl,List.any_eq_true.2 ⟨f,hf,ho⟩⟩,hout,hlen,?_⟩;exact (cCm (by show (cA dl ((zU (aG dl (aA sk) (aA dc)) i pl f).mergeSort KL.leB) (aA dc) (sB s) (sT s)).2=true;rw [htf,← hoF,ho])).trans hpl.symm
 | false =>
  rw [ho,if_neg Bool.false_ne_true] at hfb
  have hw:=bW.1 hfb;refine ⟨.inr ⟨by omega,aDz.2 ⟨f,hf,ho,by omega,by omega⟩⟩,hout,hlen,?_⟩
  have hb:=bWh hr (Bl hs) f.2.2;have hfar:f.1≤far:=by rw [hvF];exact hb.2
  have Od:f.1=(cA dl f.2.2 (aA dc) (sB s) (sT s)).1:=by
   rw [hvF];unfold mT chM;dsimp only;have h2:(cA dl f.2.2 (aA dc) (s.getD 0 0) (s.getD 1 0)).2=false:=by
    have:=hoF.symm.trans ho;exact this
   rw [h2];rfl
  obtain ⟨_,_,h3,_⟩:=gQ hr;have hbd:=aOv (dl:=dl) (oc:=f.2.2) (b:=sB s) hd (h3 s (Bl hs)).2;refine (cNb (t:=f.1) (by show (cA dl ((zU (aG dl (aA sk) (aA dc)) i pl f).mergeSort KL.leB) (aA dc) (sB s) (sT s)).2=false;rw [htf,← hoF,ho]) (by show (cA dl ((zU (aG dl (aA sk) (aA dc)) i pl f).mergeSort KL.leB) (aA dc) (sB s) (sT s)).1=f.1;rw [htf,← Od])).trans ?_
  rw [aTl hr (by rw [Od];exact hbd.2)]
  obtain ⟨c1,c2,c3,c4⟩:=hcnt hfar (by omega) ((zU (aG dl (aA sk) (aA dc)) i pl f).mergeSort KL.leB) fun k s' hk=>by
   have h5:=ht hk;rw [← eO] at h5
   have hg:=aOw (t:=f.1) (Bv:=pl-1-((bR (aG dl (aA sk) (aA dc)) i f.1).1:Int)) hs hf hk;rw [bWf hg];unfold mT chM;have h5:cA dl ((zU (aG dl (aA sk) (aA dc)) i pl f).mergeSort KL.leB) (aA dc) (s'.getD 0 0) (s'.getD 1 0)=_:=h5;rw [h5]
  have e5:(bR (aG dl (aA sk) (aA dc)) i f.1)=dI (aG dl (aA sk) (aA dc)) i f.1 (aA sk).length:=by
   show dI _ _ _ (aG dl (aA sk) (aA dc)).length=_;rw [hal]
  rw [e5] at hw c1 c2 c3 c4
  omega
end
end
section

section
variable {dl:Int} {sk dc:Lqq}
theorem bVz(h:bO dl sk dc){bib:Int}{i:Nat}{s0 s1:Int}(hp:oI (aA sk) bib=(i:Int))(hs:(aA sk)[i]? = some [s0,s1])(ho:(aJ dl (aA dc)).length≤8){l:List Int}{o:Bool}(hl:jQ (aG dl (aA sk) (aA dc)) i (hpM dl (aA dc) [s0,s1]).1=l)(hb:((hpM dl (aA dc) [s0,s1]).1.any fun x=>x.2.1)=o){base:Nat}:FV Tp 71 [.p (.agg (bC dl sk dc)),.p (aB bib)] base (.tup [.p (aF l),.p (blP o),.p (aB 0)]) []:=by
 rw [← hl,← hb];exact bUa h hp hs ho
end
end
section
section
variable {sk0 Y2:Lqq}
end
end
section
section
variable {sk0 Y2:Lqq}
theorem bAb{l:List Int}(h:l.Pairwise (· ≤ ·)):(Lib.compact l).Pairwise (· < ·):=by
 unfold Lib.compact Lib.compactUpTo;rw [List.pairwise_map];have ea:∀ j,(hj:j<l.length)→l.toArray[j]! = l[j]:=fun j hj=>by
  rw [getElem!_pos l.toArray j (by simpa using hj)];simp
 have hr:((List.range l.length).filter (Lib.keeps l.toArray)).Pairwise (· < ·):=List.pairwise_lt_range.sublist List.filter_sublist
 refine hr.imp_of_mem fun {j k} hj hk hjk => ?_
 obtain ⟨Jt,Fz⟩:=kY.1 hk;have Jt:=iN.1 Jt;unfold Lib.keeps at Fz
 have Jq:=(of_decide_eq_true Fz).resolve_left (by omega)
 rw [ea k Jt,ea (k-1) (by omega)] at Jq
 rw [ea j (by omega),ea k Jt]
 have h1:l[k-1]≤l[k]:=List.pairwise_iff_getElem.1 h (k-1) k (by omega) Jt (by omega)
 have h2:l[j]≤l[k-1]:=by
  by_cases e:j=k-1
  ·subst e;exact bEv _
  ·exact List.pairwise_iff_getElem.1 h j (k-1) (by omega) (by omega) (by omega)
 omega
end
end
section

end
section
section
variable {dl:Int} {sk dc:Lqq}
end
end
section
theorem bAc:∀ {a b:List Int},a.Pairwise (· < ·)→b.Pairwise (· < ·)→(∀ n,n∈a↔n∈b)→a=b
 | [],[],_,_,_=>rfl
 | [],y::b,_,_,h=>by have:=(h y).2 (gA ..);cases this
 | x::a,[],_,_,h=>by have:=(h x).1 (gA ..);cases this
 | x::a,y::b,ha,hb,h=>by
  obtain ⟨a1,a2⟩:=aMp.1 ha;obtain ⟨b1,b2⟩:=aMp.1 hb;have hxy:x=y:=by
   rcases fW.1 ((h x).1 (gA ..)) with q | q
   ·exact q
   ·rcases fW.1 ((h y).2 (gA ..)) with r | r
    ·exact r.symm
    ·have:=a1 y r;have:=b1 x q;omega
  subst hxy
  congr 1
  refine bAc a2 b2 fun n=>⟨fun hn => ?_,fun hn => ?_⟩
  ·rcases fW.1 ((h n).1 (Ch _ hn)) with q | q
   ·have:=a1 n hn;omega
   ·exact q
  ·rcases fW.1 ((h n).2 (Ch _ hn)) with q | q
   ·have:=b1 n hn;omega
   ·exact q
section
variable {dl:Int} {D:Lqq} {bib:Int}
end
end
section
theorem bVv{l z:List Int}{x:Int}:z.Sublist (l++[x])↔z.Sublist l∨∃ z',z=z'++[x]∧z'.Sublist l:=by
 rw [List.sublist_append_iff];constructor
 ·rintro ⟨a,b,rfl,h1,h2⟩
  rcases bCw h2 with rfl | rfl
  ·exact .inl (by rw [List.append_nil];exact h1)
  ·exact .inr ⟨a,rfl,h1⟩
 ·rintro (h | ⟨z',rfl,h⟩)
  ·exact ⟨z,[],(List.append_nil z).symm,h,List.nil_sublist _⟩
  ·exact ⟨z',[x],rfl,h,List.Sublist.refl _⟩
theorem iT(op:List Int):∀ z,z∈cL op↔z.Sublist op:=by
 refine zS (Q:=fun op=>∀ z,z∈cL op↔z.Sublist op) ?_ ?_ op
 ·intro z
  show z∈[[]]↔_;rw [List.mem_singleton,List.sublist_nil]
 ·intro l x ih z
  have e:cL (l++[x])=cL l++(cL l).map (· ++ [x]):=by unfold cL;rw [aDa];rfl
  rw [e,jK,B3,bVv,ih];constructor
  ·rintro (h | ⟨y,hy,rfl⟩)
   ·exact .inl h
   ·exact .inr ⟨y,rfl,(ih y).1 hy⟩
  ·rintro (h | ⟨y,rfl,hy⟩)
   ·exact .inl h
   ·exact .inr ⟨y,(ih y).2 hy,rfl⟩
theorem cMw{a b:List Int}(ha:a.Pairwise (· < ·))(hb:b.Pairwise (· < ·))(h:∀ n∈a,n∈b):a.Sublist b:=by
 have e:a=b.filter fun n=>a.contains n:=by
  refine bAc ha (hb.sublist List.filter_sublist) fun n => ?_
  rw [kY,List.contains_iff_mem];exact ⟨fun hn=>⟨h n hn,hn⟩,fun hn=>hn.2⟩
 rw [e];exact List.filter_sublist
theorem cCl{u:List Int}(h:nN u=true):u.Pairwise (· < ·):=by
 unfold nN at h
 have h:=gB.1 h;have st:∀ i,0<i→i<u.length→u.getD (i-1) 0<u.getD i 0:=fun i h0 hi=>by
  have:=h i (iN.2 hi);simp only [wB,beq_iff_eq,decide_eq_true_eq] at this
  omega
 have key:∀ d i,i+(d+1)<u.length→u.getD i 0<u.getD (i+(d+1)) 0:=by
  intro d
  induction d with
  | zero=>intro i hi;have:=st (i+1) (by omega) hi;simpa using this
  | succ d ih =>
   intro i hi;have a:=ih i (by omega)
   have b:=st (i+(d+1)+1) (by omega) hi
   simp only [Nat.add_sub_cancel] at b
   show u.getD i 0<u.getD (i+(d+1)+1) 0;omega
 rw [List.pairwise_iff_getElem];intro i j hi hj hij;have:=key (j-i-1) i (by omega)
 rw [show i+(j-i-1+1)=j by omega] at this
 simpa [B5,hi,hj] using this
def rsM(dl:Int)(D S:Lqq):List (Lqq):=(cL (aJ dl D)).map fun z=>bM dl z D S
section
variable {dl:Int} {sk dc:Lqq}
theorem aTf{D u:Lqq}{o:List Int}(hd:bP D)(h:sX dl D o=0):o.Sublist (aJ dl D):=by
 unfold sX at h
 cases ha:o.all (ocB (aJ dl D)) with
 | false=>rw [ha] at h;simp at h
 | true =>
  rw [ha,if_pos rfl] at h
  cases hb:nN o with
  | false=>rw [hb] at h;simp at h
  | true =>
   refine cMw (cCl hb) (aHu hd) fun n hn => ?_
   have:=gB.1 ha n hn;unfold ocB at this
   simpa using this
theorem bVw{S D:Lqq}{z:List Int}(hs:S.Pairwise fun a b=>a.getD 0 0<b.getD 0 0){s:List Int}(hm:s∈S):plB (bM dl z D S) (s.getD 0 0)=fG (fT dl z D) S s:=by
 unfold plB wS;rw [uZ (dl:=dl) (oc:=z) (dc:=D) hs hm];rfl
theorem qP(h:bO dl sk dc):(aA sk).Pairwise fun a b=>a.getD 0 0<b.getD 0 0:=by
 have h1:=iX sk;have h2:=(gQ h).2.2.2;unfold aP at h2
 rw [List.Nodup,List.pairwise_map] at h2
 exact (h1.and h2).imp fun ⟨a,b⟩=>by omega
theorem cMx{i:Nat}{s:List Int}:(jQ (aG dl (aA sk) (aA dc)) i (hpM dl (aA dc) s).1).Pairwise (· < ·):=by
 unfold jQ;refine bAb ?_;have:=List.pairwise_mergeSort (le:=KL.leB) (fun a b c h1 h2=>by simp only [KL.leB,decide_eq_true_eq] at *;omega) (fun a b=>by simp only [KL.leB,wB,decide_eq_true_eq];omega) ((hpM dl (aA dc) s).1.flatMap (chL (aG dl (aA sk) (aA dc)) i))
 exact this.imp fun {a b} h=>of_decide_eq_true h
variable (hr:bO dl sk dc) (h8:(aJ dl (aA dc)).length≤8)
include hr
theorem bVx{i:Nat}{s:List Int}(hi:(aA sk)[i]? = some s)(q:Int→Bool):((rsM dl (aA dc) (aA sk)).any fun r=>q (plB r (s.getD 0 0)))=true↔∃ z,z.Sublist (aJ dl (aA dc))∧q (fG (fT dl z (aA dc)) (aA sk) s)=true:=by
 unfold rsM;rw [List.any_map,List.any_eq_true];have hm:=Bl hi;constructor
 ·rintro ⟨z,hz,h⟩
  refine ⟨z,(iT _ z).1 hz,?_⟩;have h:q (plB (bM dl z (aA dc) (aA sk)) (s.getD 0 0))=true:=h;rw [bVw (qP hr) hm] at h
  exact h
 ·rintro ⟨z,hz,h⟩
  refine ⟨z,(iT _ z).2 hz,?_⟩;show q (plB (bM dl z (aA dc) (aA sk)) (s.getD 0 0))=true;rw [bVw (qP hr) hm];exact h
include h8
theorem bVy{i:Nat}{s:List Int}(hi:(aA sk)[i]? = some s){pl:Int}(h:(pl = -1∧((hpM dl (aA dc) s).1.any fun x=>x.2.1)=true)∨pl∈jQ (aG dl (aA sk) (aA dc)) i (hpM dl (aA dc) s).1) :
  ∃ z∈cL (aJ dl (aA dc)),fG (fT dl z (aA dc)) (aA sk) s=pl:=by
 cases hf:zV (aG dl (aA sk) (aA dc)) i pl (hpM dl (aA dc) s).1 with
 | none =>
  have:=aTh hr hi hf
  rcases h with h | h
  ·exact absurd h this.1
  ·exact absurd h this.2
 | some o =>
  obtain ⟨_,h2,_,h4⟩:=aTi hr h8 hi hf;exact ⟨o,(iT _ o).2 (aTf (u:=[]) (dA hr) h2),h4⟩
theorem cMy{i:Nat}{s:List Int}(hi:(aA sk)[i]? = some s):plR (rsM dl (aA dc) (aA sk)) (s.getD 0 0)=jQ (aG dl (aA sk) (aA dc)) i (hpM dl (aA dc) s).1:=by
 have hm:=Bl hi;have hsl:(aA sk).length≤30:=by rw [dC];exact hr.len.2
 refine bAc ?_ cMx fun p => ?_
 ·unfold plR
  refine List.Pairwise.sublist List.filter_sublist ?_;rw [List.pairwise_map];exact List.pairwise_lt_range.imp fun {a b} h=>by omega
 ·unfold plR
  rw [kY,bVx hr hi (fun x=>x == p),B3]
  constructor
  ·rintro ⟨⟨j,_,rfl⟩,z,hz,h⟩
   have h:fG (fT dl z (aA dc)) (aA sk) s=(j:Int)+1:=by simpa using h
   have hp:=aHt hr hz hi;cases ho:(cA dl z (aA dc) (sB s) (sT s)).2 with
   | true =>
    rw [ho,if_pos rfl] at hp
    have h2:fG (fT dl z (aA dc)) (aA sk) s = -1:=hp.2;omega
   | false =>
    rw [ho,if_neg Bool.false_ne_true] at hp
    have hp:fG (fT dl z (aA dc)) (aA sk) s∈_:=hp;rw [h] at hp
    exact hp
  ·intro hp
   obtain ⟨z,hz,h⟩:=bVy hr h8 hi (.inr hp);obtain ⟨x,_,_,q1,_⟩:=aDz.1 hp;have hlt:p≤30:=by
    obtain ⟨p1,p2⟩:=mK (fT dl z (aA dc)) (aA sk) s;cases ho:(fT dl z (aA dc) s).2 with
    | true=>have:=p1.2 ho;omega
    | false =>
     have:=p2 ho;have:=bCv (fT dl z (aA dc)) hm;omega
   refine ⟨⟨(p-1).toNat,iN.2 (by omega),by omega⟩,z,(iT _ z).1 hz,?_⟩
   rw [h];simp
theorem cMz{i:Nat}{s:List Int}(hi:(aA sk)[i]? = some s):gnR (rsM dl (aA dc) (aA sk)) (s.getD 0 0)=(hpM dl (aA dc) s).1.any fun x=>x.2.1:=by
 unfold gnR;rw [Bool.eq_iff_iff,bVx hr hi (fun x=>decide (x<0))]
 constructor
 ·rintro ⟨z,hz,h⟩
  have h:=of_decide_eq_true h;have hp:=aHt hr hz hi;cases ho:(cA dl z (aA dc) (sB s) (sT s)).2 with
  | true =>
   rw [ho,if_pos rfl] at hp
   exact hp.1
  | false =>
   have:=(mK (fT dl z (aA dc)) (aA sk) s).2 ho;omega
 ·intro h
  obtain ⟨z,hz,h⟩:=bVy hr h8 hi (.inl ⟨rfl,h⟩);exact ⟨z,(iT _ z).1 hz,by rw [h];rfl⟩
end
end
section
variable {n Aj:Int}{o op B9 Ag:List Int}{i k i' Bm E0 Vf base:Nat}
variable {dl:Int}{sk dc:Lqq}

noncomputable abbrev aAo:Code:=sub (cd Tryz.f69) [1,0,1,0,0]
noncomputable abbrev aFz:Code:=sub (cd Tryz.f70) [1,1,0,1,0,0]
noncomputable abbrev aGa:Code:=sub (cd Tryz.f70) [1,1,1,1,0,1,0,0]
theorem FV.argE{P:Program}{f base:Nat}{args A1:List AV}{y:AV}{L:Upd}(h:FV P f A1 base y L)(e:args=A1):FV P f args base y L:=e ▸ h
def lT(n:Int)(op:List Int)(i:Nat):St:=⟨fr 16 [(0,(pI n)),(6,(.p (aF op))),(7,(pI (op.length:Int))),(8,(pI (i:Int)))],[]⟩
theorem cEg(hl0:aD Tp 0 aAo (lT n op 0) (.exit 0) (lT n op Bm)):FV Tp 69 [(pI n),(.rp [(aF op)] 0)] base (pB false) []:=FV.fi func69 [.x (aF op),hl0.k 1 (gZ [1,5,9,7])] (gc hl0.code (gr (aF op) gn))
theorem cEh(hl0:aD Tp 0 aAo (lT n op 0) .ret (bQ (lT n op Bm) [(3,(.kb true))])):FV Tp 69 [(pI n),(.rp [(aF op)] 0)] base (pB true) []:=FV.fi func69 [.x (aF op),hl0.k 1 (gZ [1,5,9,7])] (gc hl0.code (gr (aF op) gn))
section
variable(h0:(i:Int)<(op.length:Int))(h1:op[i]? = some Aj)
include h0 h1
theorem bGc(h2:Aj=n):aC Tp 0 aAo (lT n op i) .ret (bQ (lT n op i) [(3,(.kb true))]):=aC.fi ⟨[1,2,4,5,9,10,11,12,13,14,15],[],[],[]⟩ [bT,.x (aB Aj),bT] (gc (bX h2) (gc (atm aB h1) (gc (ixn aB h1) (g0 h0))))
theorem bGd(h2:Aj≠n)(h3:gk i)(Ai:i'=(i+1)):aC Tp 0 aAo (lT n op i) .normal (lT n op i'):=by
 subst Ai;exact aC.fi (gZ [1,5,9,7]) [bT,.x (aB Aj),bF] (gc h3 (gc (aS h2) (gc (atm aB h1) (gc (ixn aB h1) (g0 h0)))))
end
theorem bGe(h0:(op.length:Int)≤(i:Int)):aC Tp 0 aAo (lT n op i) (.exit 0) (lT n op i):=aC.fi (gZ [1,5,9,7]) [bF] (gc (aK h0) gn)
theorem aAp(op:List Int)(n:Int)(hl:op.length≤1000){base:Nat}:FV Tp 69 [.p (aB n),.rp [aF op] 0] base (pB (op.contains n)) []:=by
 rcases aD.find (P:=Tp) (k:=0) (b:=aAo) (fun i=>lT n op i) (fun i _=>bQ (lT n op i) [(3,.kb true)]) (lT n op op.length) .ret (.exit 0) (by simp) (by simp) (fun x=>decide (x=n)) op
  (fun i x hx hq=>bGd (by have:=aM hx;omega) hx (of_decide_eq_false hq) (aI (by have:=aM hx;omega)) rfl)
  (fun i x hx hq=>bGc (by have:=aM hx;omega) hx (of_decide_eq_true hq))
  (bGe (by omega)) with ⟨j,x,h1,h2,h3,h4⟩ | ⟨h1,h2,h3⟩
 ·have:op.contains n=true:=by
   have:=Bl h1;rw [of_decide_eq_true h3] at this
   rw [List.contains_iff_mem];exact this
  rw [this];exact cEh h4
 ·have:op.contains n=false:=by
   rw [Bool.eq_false_iff];intro hc;rw [List.contains_iff_mem] at hc
   have:=List.any_eq_false.1 h2 n hc;simp at this
  rw [this];exact cEg h3
theorem bRm(a b:Lqq)(ha:uni 3 a)(hb:uni 3 b)(hl:a.length≤b.length)(C6:a.length≤1000){base:Nat}:FV Tp 63 [.p (fS a),.p (fS b)] base (pB (decide (a=b))) []:=by
 have eqx:∀ i,i<a.length→∃ x y,a[i]? = some x∧b[i]? = some y∧x.length=3∧y.length=3:=fun i hi =>
  ⟨a[i],b[i],Ay hi,Ay (by omega),ha _ (fP hi),hb _ (fP (by omega))⟩
 rcases aD.find (P:=Tp) (k:=0) (b:=(sub (cd Tryz.f63) g8)) (fun i=>kB a b i) (fun i _=>bQ (kB a b i) [(4,.kb false)]) (kB a b a.length) .ret (.exit 0) (by simp) (by simp) (fun j=>decide (a.getD j []≠b.getD j [])) (List.range a.length)
  (fun i x hx hp=>by
   have hi:i<a.length:=by have:=aM hx;simpa using this
   obtain ⟨y,z,hy,hz,ly,lz⟩:=eqx i hi;obtain ⟨a,b,c,rfl⟩:=Dd ly;obtain ⟨a',b',c',rfl⟩:=Dd lz;have hxi:x=i:=by rw [mO hi] at hx;exact (Option.some.inj hx).symm
   subst hxi;have he:=of_decide_eq_false hp;simp only [B5,hy,hz,Option.getD_some,ne_eq,Classical.not_not] at he
   cases he;exact aJw (by omega) hy ha hz hb ⟨rfl,rfl⟩ (by simp [iV,tP]) (aI (by omega)) rfl)
  (fun i x hx hp=>by
   have hi:i<a.length:=by have:=aM hx;simpa using this
   obtain ⟨y,z,hy,hz,ly,lz⟩:=eqx i hi;obtain ⟨a,b,c,rfl⟩:=Dd ly;obtain ⟨a',b',c',rfl⟩:=Dd lz;have hxi:x=i:=by rw [mO hi] at hx;exact (Option.some.inj hx).symm
   subst hxi;have he:=of_decide_eq_true hp;simp only [B5,hy,hz,Option.getD_some] at he
   exact bHd (by omega) hy ha hz hb ⟨rfl,rfl⟩ (by
    rw [Bool.eq_false_iff];intro h;simp [iV,tP] at h
    exact he (by simp [h])))
  (by rw [aFs];exact aJx (by omega)) with ⟨i,x,h1,h2,h3,h4⟩ | ⟨h1,h2,h3⟩
 ·have hi:i<a.length:=by have:=aM h1;simpa using this
  have hxi:x=i:=by rw [mO hi] at h1;exact (Option.some.inj h1).symm
  have he:=of_decide_eq_true h3;rw [decide_eq_false (fun e=>he (by rw [e]))]
  exact cEw h4
 ·have hag:∀ i,i<a.length→a[i]? = b[i]? := fun i hi=>by
   have h:=List.any_eq_false.1 h2 i (iN.2 hi);have h:=of_decide_eq_false (Bool.eq_false_iff.2 h);simp only [ne_eq,Classical.not_not] at h
   obtain ⟨y,z,hy,hz,_⟩:=eqx i hi;rw [hy,hz];rw [B5,B5,hy,hz] at h
   exact congrArg some h
  have:=bRq (a:=a) (b:=b) (Bm:=a.length) h3 (r0:=decide (a=b)) (by
   by_cases hlen:a.length=b.length
   ·have:a=b:=List.ext_getElem? fun i=>by
     rcases Nat.lt_or_ge i a.length with h | h
     ·exact hag i h
     ·rw [List.getElem?_eq_none h,List.getElem?_eq_none (by omega)]
    rw [decide_eq_true this,this];simp
   ·have:a≠b:=fun e=>hlen (by rw [e])
    rw [decide_eq_false this];symm;rw [beq_eq_false_iff_ne];omega) (base:=base)
  exact this

def nB(dl:Int)(sk dc:Lqq)(n:Int)(op:List Int)(on:Nat)(oc:List PV)(i:Nat):St:=⟨fr 57 [(1,(pI n)),(2,(.p (aF op))),(3,(.ptr 0 0)),(6,(.kb false)),(7,(.own 1)),(8,(pI (i:Int)))],[some (.box 61 [(pI dl),(.p (fS sk)),(.p (fS dc))]),some (.row 3 on oc)]⟩
def lU(dl:Int)(sk dc:Lqq)(n:Int)(B9:List Int)(k:Nat):St:=⟨fr 57 [(1,(pI n)),(3,(.ptr 0 0)),(9,(.p (.sl ((cL B9).length) (((cL B9).map oiE).flatten)))),(10,(pI (k:Int)))],[some (.box 61 [(pI dl),(.p (fS sk)),(.p (fS dc))])]⟩
section
variable(hl0:aD Tp 0 aFz (nB dl sk dc n op 0 [] 0) (.exit 0) (nB dl sk dc n op B9.length (B9.map aB) E0))(h1:B9.length≤8)
include hl0 h1
theorem cEi(C6:aD Tp 0 aGa (lU dl sk dc n B9 0) (.exit 2) (lU dl sk dc n B9 Vf)):FV Tp 70 [(.p (.agg (bC dl sk dc))),(pI n),(.p (aF op))] base (pB false) []:=FV.fi func70 [hl0.k 8 (gN ff [0,1] [(7,3)]),.c (.p (.sl ((cL B9).length) (((cL B9).map oiE).flatten))) [(1,.dead)],C6.k 4 (gI du [0])] (gc C6.code (gt (FC Tp 38 [(.own 1)] [(1,(.row 3 B9.length (B9.map aB)))] 2 (.p (.sl ((cL B9).length) (((cL B9).map oiE).flatten))) [(1,.dead)]) (FV.close (ids:=[1]) (A1:=[(.p (aF B9))]) (aMz (op:=B9) h1) (by kernel_rfl)) (gc hl0.code gn)))
theorem cEj(C6:aD Tp 0 aGa (lU dl sk dc n B9 0) .ret (bQ (lU dl sk dc n B9 Vf) [(6,(.kb true))])):FV Tp 70 [(.p (.agg (bC dl sk dc))),(pI n),(.p (aF op))] base (pB true) []:=FV.fi func70 [hl0.k 8 (gN ff [0,1] [(7,3)]),.c (.p (.sl ((cL B9).length) (((cL B9).map oiE).flatten))) [(1,.dead)],C6.k 4 (gI du [0])] (gc C6.code (gt (FC Tp 38 [(.own 1)] [(1,(.row 3 B9.length (B9.map aB)))] 2 (.p (.sl ((cL B9).length) (((cL B9).map oiE).flatten))) [(1,.dead)]) (FV.close (ids:=[1]) (A1:=[(.p (aF B9))]) (aMz (op:=B9) h1) (by kernel_rfl)) (gc hl0.code gn)))
end
section
variable(h0:(i:Int)<(op.length:Int))(h1:op[i]? = some Aj)
include h0 h1
theorem bGf{o':List Int}(h2:Aj≠n)(h3:[(aB Aj)].length=1*1∧o.length+1≤1000000)(h4:gk i)(Bq:o'.length=(o.length+1))(Br:o'.map aB=((o.map aB)++[(aB Aj)]))(Ai:i'=(i+1)):aC Tp 0 aFz (nB dl sk dc n op o.length (o.map aB) i) .normal (nB dl sk dc n op o'.length (o'.map aB) i'):=by
 subst Ai;rw [Bq,Br];exact aC.fi (gI ff [0,3]) [bT,.x (aB Aj),bT,.x (aB Aj)] (gc h4 (gc h3 (gc (atm aB h1) (gc (ixn aB h1) (gc (fH h2) (gc (atm aB h1) (gc (ixn aB h1) (g0 h0))))))))
theorem bGg(h2:Aj=n)(h3:gk i)(Ai:i'=(i+1)):aC Tp 0 aFz (nB dl sk dc n op o.length (o.map aB) i) .normal (nB dl sk dc n op o.length (o.map aB) i'):=by
 subst Ai;exact aC.fi (gI ff [0,1]) [bT,.x (aB Aj),bF] (gc h3 (gc (bG h2) (gc (atm aB h1) (gc (ixn aB h1) (g0 h0)))))
end
theorem bGh(h0:(op.length:Int)≤(i:Int)):aC Tp 0 aFz (nB dl sk dc n op o.length (o.map aB) i) (.exit 0) (nB dl sk dc n op o.length (o.map aB) i):=aC.fi (gI ff [0,1]) [bF] (gc (aK h0) gn)
section
variable(h0:(k:Int)<((cL B9).length:Int))(h1:(cL B9)[k]? = some (Ag))(h2:bP dc)(h3:Ag.length≤1000)(h4:uni 2 sk)(h5:sk.length≤100)(h6:sk.Pairwise fun a b=>a.getD 0 0<b.getD 0 0)(h7:∀ s∈sk,-1≤sT s∧sT s≤360000)(h8:(Ag.map aB).length=Ag.length*1∧0+Ag.length≤1000000)(h9:[(aB n)].length=1*1∧(0+Ag.length)+1≤1000000)(A8:(Ag++[n]).length≤1000)(Be:uni 3 (bM dl Ag dc sk))(Bo:uni 3 (bM dl (Ag++[n]) dc sk))(Cl:(bM dl Ag dc sk).length≤(bM dl (Ag++[n]) dc sk).length)(Ec:(bM dl Ag dc sk).length≤1000)
include h0 h1 h2 h3 h4 h5 h6 h7 h8 h9 A8 Be Bo Cl Ec
theorem bGi(Gx:(decide ((bM dl Ag dc sk)=(bM dl (Ag++[n]) dc sk)))=false):aC Tp 0 aGa (lU dl sk dc n B9 k) .ret (bQ (lU dl sk dc n B9 k) [(6,(.kb true))]):=have k1:=fk 1 (xY (dl:=dl) h2 h3 h4 h5 h6 h7) rfl;have k2:=fk 21 (bRm (bM dl Ag dc sk) (bM dl (Ag++[n]) dc sk) Be Bo Cl Ec) rfl;aC.fi (gI [0,1,2,1,4,2,7,2,11,46] [0]) [bT,.x (aF Ag),k1.o,.x (aF Ag),.c (.p (.sl ((bM dl (Ag++[n]) dc sk).length) ((bM dl (Ag++[n]) dc sk).flatten.map aB))) [(12,.dead)],k2.o,bT] (gc (bN Gx) (gc k2 (gt (FC Tp 39 [(.p (.agg (bC dl sk dc))),(.own 12)] [(12,(.row 3 ((0+Ag.length)+1) ((Ag.map aB)++[(aB n)])))] 13 (.p (.sl ((bM dl (Ag++[n]) dc sk).length) ((bM dl (Ag++[n]) dc sk).flatten.map aB))) [(12,.dead)]) (FV.close (ids:=[12]) (A1:=[(.p (.agg (bC dl sk dc))),(.p (.sl ((0+Ag.length)+1) ((Ag.map aB)++[(aB n)])))]) (FV.argE (xY (dl:=dl) h2 A8 h4 h5 h6 h7) (by simp [aF,bC])) (by kernel_rfl)) (gc h9 (gc h8 (gt ((((cL B9).map oiE).flatten)[(k*1)]? = some (aF Ag)) (bA (E:=oiE) (i:=k) (f:=0) (k:=1) (fun _=>rfl) h1 rfl) (gc (cN (E:=oiE) (k:=1) (i:=(k:Int)) (fun _=>rfl) (by decide) (Bp _) h1) (gc k1 (gt ((((cL B9).map oiE).flatten)[(k*1)]? = some (aF Ag)) (bA (E:=oiE) (i:=k) (f:=0) (k:=1) (fun _=>rfl) h1 rfl) (gc (cN (E:=oiE) (k:=1) (i:=(k:Int)) (fun _=>rfl) (by decide) (Bp _) h1) (g0 h0)))))))))))
theorem bGj{k':Nat}(Gx:(decide ((bM dl Ag dc sk)=(bM dl (Ag++[n]) dc sk)))=true)(G4:gk k)(Ci:k'=(k+1)):aC Tp 0 aGa (lU dl sk dc n B9 k) .normal (lU dl sk dc n B9 k'):=by
 subst Ci;have k1:=fk 1 (xY (dl:=dl) h2 h3 h4 h5 h6 h7) rfl;have k2:=fk 21 (bRm (bM dl Ag dc sk) (bM dl (Ag++[n]) dc sk) Be Bo Cl Ec) rfl;exact aC.fi (gI du [0]) [bT,.x (aF Ag),k1.o,.x (aF Ag),.c (.p (.sl ((bM dl (Ag++[n]) dc sk).length) ((bM dl (Ag++[n]) dc sk).flatten.map aB))) [(12,.dead)],k2.o,bF] (gc G4 (gc (aR Gx) (gc k2 (gt (FC Tp 39 [(.p (.agg (bC dl sk dc))),(.own 12)] [(12,(.row 3 ((0+Ag.length)+1) ((Ag.map aB)++[(aB n)])))] 13 (.p (.sl ((bM dl (Ag++[n]) dc sk).length) ((bM dl (Ag++[n]) dc sk).flatten.map aB))) [(12,.dead)]) (FV.close (ids:=[12]) (A1:=[(.p (.agg (bC dl sk dc))),(.p (.sl ((0+Ag.length)+1) ((Ag.map aB)++[(aB n)])))]) (FV.argE (xY (dl:=dl) h2 A8 h4 h5 h6 h7) (by simp [aF,bC])) (by kernel_rfl)) (gc h9 (gc h8 (gt ((((cL B9).map oiE).flatten)[(k*1)]? = some (aF Ag)) (bA (E:=oiE) (i:=k) (f:=0) (k:=1) (fun _=>rfl) h1 rfl) (gc (cN (E:=oiE) (k:=1) (i:=(k:Int)) (fun _=>rfl) (by decide) (Bp _) h1) (gc k1 (gt ((((cL B9).map oiE).flatten)[(k*1)]? = some (aF Ag)) (bA (E:=oiE) (i:=k) (f:=0) (k:=1) (fun _=>rfl) h1 rfl) (gc (cN (E:=oiE) (k:=1) (i:=(k:Int)) (fun _=>rfl) (by decide) (Bp _) h1) (g0 h0))))))))))))
end
theorem bGk(h0:((cL B9).length:Int)≤(k:Int)):aC Tp 0 aGa (lU dl sk dc n B9 k) (.exit 2) (lU dl sk dc n B9 k):=aC.fi (gI du [0]) [bF] (gc (aK h0) gn)
end
section
theorem aHv(op:List Int):(cL op).length=2 ^ op.length:=by
 refine zS (Q:=fun op=>(cL op).length=2 ^ op.length) rfl ?_ op
 intro l x ih;have e:cL (l++[x])=cL l++(cL l).map (· ++ [x]):=by unfold cL;rw [aDa];rfl
 rw [e,iJ,Co,ih,iJ,List.length_singleton,Nat.pow_succ];omega
section
variable {dl:Int} {sk dc:Lqq} {n:Int} {a0:List Int} {e1:Int} {a2:List Int} {e3:Int} {o4:List Int}
theorem cNj(hr:bO dl sk dc)(h8:(aJ dl (aA dc)).length≤8):(∀ r∈rsM dl (aA dc) (aA sk),uni 3 r∧r.length≤1000)∧(rsM dl (aA dc) (aA sk)).length≤1000:=by
 obtain ⟨u2,Ri,hrg,hnd⟩:=gQ hr;constructor
 ·intro r hm
  unfold rsM at hm
  obtain ⟨z,_,rfl⟩:=B3.1 hm;exact ⟨fE,by rw [uY];omega⟩
 ·unfold rsM
  rw [Co,aHv];exact fL (Nat.pow_le_pow_right (by omega) h8) (by decide)
end
end
section
def aVn(dl:Int)(sk dc:Lqq)(n:Int)(op:List Int):Bool:=(cL (op.filter fun x => !(x == n))).any fun c=>decide (bM dl c dc sk≠bM dl (c++[n]) dc sk)
theorem bXg{rs:List (Lqq)}{v:PV}{i:Nat}(h:i=rs.length):(((rs.map reE).flatten)++[v])[i]? = some v:=by
 have e:∀ rs:List (Lqq),((rs.map reE).flatten).length=rs.length:=by
  intro rs
  induction rs with
  | nil=>rfl
  | cons r rs ih=>rw [iB,tX,iJ,ih,oE];show 1+_=_;omega
 rw [h,← e rs,xJ (dF _),aQy];rfl
theorem cEf{dl n:Int}{sk dc:Lqq}{op:List Int}{b:Bool}(hd:bP dc)(hu:uni 2 sk)(hl:sk.length≤100)(hp:sk.Pairwise fun a b=>a.getD 0 0<b.getD 0 0)(ht:∀ s∈sk,-1≤sT s∧sT s≤360000)(ho:op.length≤8)(hb:aVn dl sk dc n op=b){base:Nat}:FV Tp 70 [.p (.agg (bC dl sk dc)),.p (aB n),.p (aF op)] base (.p (blP b)) []:=by
 obtain ⟨o,hI,hL⟩:=aD.ex (P:=Tp) (k:=0) (b:=sub (cd Tryz.f70) fy) (e := .exit 0) (fun i (o:List Int)=>nB dl sk dc n op o.length (o.map aB) i) (fun o=>nB dl sk dc n op o.length (o.map aB) op.length)
  (fun i o=>o=(op.take i).filter fun x => !(x == n)) (by simp) op.length
  (fun i o hi hoE=>by
   have hx:op[i]? = some op[i]:=Ay hi;have hol:o.length≤i:=by
    rw [hoE];exact fL (rZ _ _) (by rw [oD];omega)
   have et:op.take (i+1)=op.take i++[op[i]]:=List.take_succ_eq_append_getElem hi
   by_cases h:op[i]=n
   ·exact ⟨o,by rw [et,oO,← hoE];simp [h],bGg (by omega) hx h (aI (by omega)) rfl⟩
   ·exact ⟨o++[op[i]],by rw [et,oO,← hoE];simp [h],bGf (by omega) hx h ⟨rfl,by omega⟩ (aI (by omega)) (by simp) (by simp) rfl⟩)
  (fun o _=>bGh (by omega)) (acc:=[]) (by simp)
 rw [List.take_length] at hI
 have hol:o.length≤8:=by
  rw [hI];exact fL (rZ _ _) ho
 have hll:(cL o).length≤256:=by
  rw [aHv];exact fL (Nat.pow_le_pow_right (by omega) hol) (by decide)
 unfold aVn at hb
 rw [← hI] at hb
 have rl:∀ c,(bM dl c dc sk).length=sk.length:=fun c=>uY
 have cl:∀ c∈cL o,c.length≤8:=fun c hc=>fL ((iT _ c).1 hc).length_le hol
 have st:∀ (k:Nat) c,(cL o)[k]? = some c→(k:Int)<((cL o).length:Int)∧c.length≤1000∧(c.length+1≤1000)∧inR (((k+1:Nat):Nat):Int):=fun k c hc=>by
  have:=aM hc;have:=cl c (Bl hc);exact ⟨by omega,by omega,by omega,aI (by omega)⟩
 rcases aD.find (P:=Tp) (k:=0) (b:=sub (cd Tryz.f70) dv) (fun k=>lU dl sk dc n o k) (fun k _=>bQ (lU dl sk dc n o k) [(6,.kb true)]) (lU dl sk dc n o (cL o).length) .ret (.exit 2) (by simp) (by simp) (fun c=>decide (bM dl c dc sk≠bM dl (c++[n]) dc sk)) (cL o)
  (fun k c hc hq=>by
   obtain ⟨s1,s2,s3,s4⟩:=st k c hc;exact bGj s1 hc hd s2 hu hl hp ht ⟨by simp,by omega⟩ ⟨rfl,by omega⟩ (by simpa using s3) fE fE (by rw [rl,rl];exact dF _) (by rw [rl];omega) (by simpa using hq) s4 rfl)
  (fun k c hc hq=>by
   obtain ⟨s1,s2,s3,s4⟩:=st k c hc;exact bGi s1 hc hd s2 hu hl hp ht ⟨by simp,by omega⟩ ⟨rfl,by omega⟩ (by simpa using s3) fE fE (by rw [rl,rl];exact dF _) (by rw [rl];omega) (by simpa using hq))
  (bGk (by omega)) with ⟨j,x,h1,h2,h3,h4⟩ | ⟨h1,h2,h3⟩
 ·have:b=true:=by
   rw [← hb,List.any_eq_true];exact ⟨x,Bl h1,h3⟩
  rw [this];exact cEj hL hol h4
 ·have:b=false:=by rw [← hb];exact h2
  rw [this];exact cEi hL hol h3
section
variable {dl:Int} {sk dc:Lqq}
theorem bXh(h:bO dl sk dc)(u:List Int)(hu:u.length≤1000){e:Int}(he:sX dl (aA dc) u=e)(hn:e≠0){base:Nat}:FV Tp 21 [.p (.agg (bC dl sk dc)),.p (aF u)] base (.tup [.p cC,.p (aB e)]) []:=by
 subst he;exact cMr h u hu hn
theorem bBc(hr:bO dl sk dc){bib:Int}{i:Nat}{s0 s1:Int}(hp:oI (aA sk) bib=(i:Int))(hs:(aA sk)[i]? = some [s0,s1])(h8:(aJ dl (aA dc)).length≤8){pl:Int} :
  (zV (aG dl (aA sk) (aA dc)) i pl (hpM dl (aA dc) [s0,s1]).1=none→∀ base,FV Tp 72 [.p (.agg (bC dl sk dc)),.p (aB bib),.p (aB pl)] base (.tup [.p cC,.p (aB 6)]) []) ∧
  (∀ o,zV (aG dl (aA sk) (aA dc)) i pl (hpM dl (aA dc) [s0,s1]).1=some o→∀ base,FV Tp 72 [.p (.agg (bC dl sk dc)),.p (aB bib),.p (aB pl)] base (.tup [.p (aF o),.p (aB 0)]) []):=by
 by_cases hpl : -1≤pl∧pl≤1000
 ·exact cNa hr hp hs h8 hpl
 ·have hat:=jX (dl:=dl) (dc:=aA dc) hs
  have hat:(aG dl (aA sk) (aA dc))[i]? = some ((hpM dl (aA dc) [s0,s1]).1,(hpM dl (aA dc) [s0,s1]).2.1,(hpM dl (aA dc) [s0,s1]).2.2):=hat;have hcl:=uS (dl:=dl) (dc:=aA dc) (s0:=s0) (s1:=s1) s0 h8;have hcl:(hpM dl (aA dc) [s0,s1]).1.length≤256:=hcl;have hal:(aG dl (aA sk) (aA dc)).length=(aA sk).length:=kN ..;have hsl:(aA sk).length≤30:=by rw [dC];exact hr.len.2
  unfold zV
  rcases aTg (i:=i) (pl:=pl) hr hcl with ⟨h1,h2⟩ | ⟨f,j,h1,h2⟩
  ·rw [h1]
   exact ⟨fun _ base=>bWe hr hp hs h8 hat h2,fun o ho=>(by cases ho)⟩
  ·have:=aMr h1
   unfold aIm at this
   split at this
   ·have:=of_decide_eq_true this;omega
   ·have hw:=bW.1 this
    have:=(lJ (aG dl (aA sk) (aA dc)) i f.1 (aG dl (aA sk) (aA dc)).length).2;rw [hal] at this
    have:(bR (aG dl (aA sk) (aA dc)) i f.1).2≤(aA sk).length:=by unfold bR;rw [hal];exact this
    omega
theorem bXi(hr:bO dl sk dc)(h8:(aJ dl (aA dc)).length≤8){n:Int}(hc:(aJ dl (aA dc)).contains n=true):uW dl sk dc n=(aVn dl (aA sk) (aA dc) n (aJ dl (aA dc)),0):=by
 have ho:=List.contains_iff_mem.1 hc;have hs:=qP hr;obtain ⟨x,hx,hxn⟩:∃ x∈aA dc,dN x=n:=by
  have ho:=ho;unfold aJ at ho
  obtain ⟨x,hx,e⟩:=B3.1 ho;exact ⟨x,(kY.1 hx).1,e⟩
 have h2:(uW dl sk dc n).2=0:=by
  unfold uW;rw [if_neg (by rw [hc];simp),if_neg (by omega)]
  split <;> rfl
 refine Prod.ext ?_ h2;show (uW dl sk dc n).1=aVn dl (aA sk) (aA dc) n (aJ dl (aA dc));cases hm:(uW dl sk dc n).1 with
 | false =>
  symm;unfold aVn;rw [List.any_eq_false];intro c hcm;have hsub:=(iT _ c).1 hcm;rw [decide_eq_true_eq,Decidable.not_not];subst hxn;exact bVr fun s hsm=>cCj hr hx ho h8 hm hsub hsm
 | true =>
  symm;unfold uW at hm
  rw [if_neg (by rw [hc];simp),if_neg (by omega)] at hm
  split at hm
  ·cases hm
  ·rename_i h0
   have hm:((gK ((aJ dl (aA dc)).filter fun m => !(m == n))).any (zQ dl sk dc n (rH (aA dc) n)))=true:=hm
   obtain ⟨u,hu,hb⟩:=List.any_eq_true.1 hm;have hi:=bCq (p:=fun x=>decide (rH (aA dc) n=x)) (l:=aP (aA sk) 0) (by omega)
   rw [mI] at hi
   obtain ⟨y0,y1,hy⟩:=at2 (gQ hr).1 hi;unfold zQ at hb
   rw [aDv hy,aDv hy] at hb
   unfold aVn;rw [List.any_eq_true];refine ⟨u,(iT _ u).2 (aTc hu),?_⟩;rw [decide_eq_true_eq];intro he;have hmem:=Bl hy;have l1:=uZ (dl:=dl) (oc:=u) (dc:=aA dc) hs hmem;have l2:=uZ (dl:=dl) (oc:=u++[n]) (dc:=aA dc) hs hmem;rw [he,l2] at l1
   have l1:=Option.some.inj l1;simp only [List.cons.injEq,and_true,true_and] at l1
   obtain ⟨e1,e2⟩:=l1;have e2:(cA dl (u++[n]) (aA dc) y0 y1).1=(cA dl u (aA dc) y0 y1).1:=e2;have i1:=(mK (fun s=>cA dl u (aA dc) (sB s) (sT s)) (aA sk) [y0,y1]).1
   have i2:=(mK (fun s=>cA dl (u++[n]) (aA dc) (sB s) (sT s)) (aA sk) [y0,y1]).1
   have e3:(cA dl u (aA dc) y0 y1).2=(cA dl (u++[n]) (aA dc) y0 y1).2:=by
    rw [e1] at i2
    rw [Bool.eq_iff_iff];exact i1.symm.trans i2
   rw [e2,e3] at hb
   simp at hb
end
end
section

end
section
section
variable {dl:Int} {sk dc:Lqq} {bib:Int}
end
end
section

theorem cNk{l:List Int}(h0:(l.map aB).length=l.length*1∧l.length≤1000000){base:Nat}:FV Tp 62 [(.p (aF l))] base (.p (aF l)) []:=FV.frz (FMM.fi 0 ⟨[],[],[0],[]⟩ func62 [] (gc h0 gn)) (by kernel_rfl)
theorem bAd(l:List Int)(h:l.length≤1000){base:Nat}:FV Tp 62 [.p (aF l)] base (.p (aF l)) []:=cNk ⟨by simp,by omega⟩
end
section
variable {cn can Bg:Bool}{w x fe pl w' bib num Ks Aj Cr Gg G3 F4 Cs Ej Dn E2 Ek Dj E3 E5 E6 El:Int}{a0 b1:Lqq}{u Bw A5 A2:List Int}{i k i' k' Rj base E7 Ip:Nat}{ov:PV}
variable {dl:Int}{sk dc:Lqq}

noncomputable abbrev sE:Code:=pS (cd Tryz.f12) 10 [0,1,0,0]
noncomputable abbrev xK:Code:=pS (cd Tryz.f12) 11 [0,1,0,0]
noncomputable abbrev aFw:Code:=pS (cd Tryz.f12) 18 []
noncomputable abbrev aMu:Code:=pS (cd Tryz.f12) 14 []
noncomputable abbrev aAk:Code:=pS (cd Tryz.f12) 18 [0,1,0,1,1,0,0]
noncomputable abbrev aMv:Code:=pS (cd Tryz.f12) 24 [0,1,0,0]
noncomputable abbrev aFx:Code:=pS (cd Tryz.f12) 24 [0,1,0,0,1,1,0,0,1,1,1,0,0]
noncomputable abbrev aVj:Code:=pS (cd Tryz.f12) 12 []
noncomputable abbrev aMw:Code:=pS (cd Tryz.f12) 28 [0,1,0,0]
noncomputable abbrev aMx:Code:=pS (cd Tryz.f12) 29 [0,1,0,0]
theorem pQ:((0:Int) == 0)=true:=by first | decide | simp
theorem aAl:((0:Int) != 0)=false:=by first | decide | simp
theorem aAm:(decide ((0:Int) > 0))=false:=by first | decide | simp
theorem aVk:((1:Int) != 1)=false:=by first | decide | simp
theorem bRl:((1:Int) == 0)=false:=by first | decide | simp
theorem cDx:((6:Int) == 6)=true:=by first | decide | simp
theorem cDy(h0:bO dl sk dc)(h1:oI (aA sk) bib = -1):FV Tp 72 [(.p (.agg (bC dl sk dc))),(pI bib),(pI pl)] base (.tup [(.p cC),(pI 1)]) []:=have k1:=fk 1 (bUg h0 h1) rfl;FV.fi func72 [k1.o,bT] (gt (((1:Int) != 0)=true) (by first | decide | simp) (gc k1 gn))
theorem cDz{r0:Int}(h0:uni 2 sk)(h1:uni 6 dc)(h2:(cY dl sk dc)≠0)(A6:r0=(cY dl sk dc)):FV Tp 72 [(.p (.agg (bC dl sk dc))),(pI bib),(pI pl)] base (.tup [(.p cC),(pI r0)]) []:=by
 subst A6;exact FV.fi func72 [.c (.tup [(.p cC),(pI 0),(pI (cY dl sk dc))]) [],bT] (gc (fH h2) (gt (FC Tp 140 [(.p (.agg (bC dl sk dc))),(pI bib)] [] 1 (.tup [(.p cC),(pI 0),(pI (cY dl sk dc))]) []) (FV.fc (bUh (bib:=bib) h0 h1 h2 rfl) rfl) gn))
abbrev ah(dl:Int)(sk dc a0 b1:Lqq):Mem:=[some (.box 26 [(pI dl),(.p (fS sk)),(.p (fS dc))]),some (.box 26 [(pI dl),(.p (fS sk)),(.p (fS dc))]),some (.box 61 [(pI dl),(.p (fS a0)),(.p (fS b1))])]
def pR(dl:Int)(sk dc:Lqq)(u:List Int)(bib pl num:Int)(a0 b1:Lqq)(w:Int)(i:Nat):St:=⟨fr 364 [(1,(.p (aF u))),(2,(pI bib)),(3,(pI pl)),(4,(pI num)),(5,(.ptr 0 0)),(10,(.kb false)),(11,(.ptr 1 0)),(12,(.p (aF u))),(14,(pI (cY dl sk dc))),(15,(.ptr 2 0)),(16,(.rp [cC] 0)),(17,(.fn 69 [] [(.rp [cC] 0)])),(18,(pI w)),(73,(.p (aF u))),(74,(pI (u.length:Int))),(75,(pI (i:Int)))],(ah dl sk dc a0 b1)⟩
def pT(dl:Int)(sk dc:Lqq)(u:List Int)(bib pl num:Int)(a0 b1:Lqq)(w:Int)(i:Nat):St:=⟨fr 364 [(1,(.p (aF u))),(2,(pI bib)),(3,(pI pl)),(4,(pI num)),(5,(.ptr 0 0)),(10,(.kb false)),(11,(.ptr 1 0)),(12,(.p (aF u))),(14,(pI (cY dl sk dc))),(15,(.ptr 2 0)),(16,(.rp [cC] 0)),(17,(.fn 69 [] [(.rp [cC] 0)])),(18,(pI w)),(96,(.p (aF u))),(97,(pI (u.length:Int))),(98,(pI (i:Int)))],(ah dl sk dc a0 b1)⟩
theorem cEa(h0:(wD sk dc 5 14)=true)(h1:∀ {base:Nat},FV Tp 26 [] base (pB true) []):FV Tp 12 [(.p (.agg (bC dl sk dc))),(.p (aF u)),(pI bib),(pI pl),(pI num)] base (pB true) []:=have k1:=fk 1 (aGc dl sk dc 5 14) rfl;FV.fi func12 [k1.o,bT,bT,bT,bT,.c (pB true) []] (gc (fk 1 h1 rfl) (Au h0 (gc k1 gn)))
theorem cEb(h0:(wD sk dc 5 14)=false)(h1:(12:Int)<(u.length:Int))(h2:∀ {base:Nat},FV Tp 26 [] base (pB true) []):FV Tp 12 [(.p (.agg (bC dl sk dc))),(.p (aF u)),(pI bib),(pI pl),(pI num)] base (pB true) []:=have k1:=fk 1 (aGc dl sk dc 5 14) rfl;FV.fi func12 [k1.o,bF,bF,bF,bF,bT,.c (pB true) []] (gc (fk 1 h2 rfl) (gc (bI h1) (Au h0 (gc k1 gn))))
theorem cEc{Vb:Int}{Rk:Nat}(h0:(wD sk dc 5 14)=false)(h1:(u.length:Int)≤12)(h2:uni 2 sk)(h3:sk.length≤1000)(h4:uni 6 dc)(h5:dc.length≤1000)(h6:u.length≤1000)(h7:(cY dl sk dc)≠0)(h8:∀ {base:Nat},FV Tp 36 [.p (.agg (bC dl sk dc))] base (.p (.agg (bC dl a0 b1))) [])(Hn:aD Tp 0 sE (pR dl sk dc u bib pl num a0 b1 (cY dl sk dc) 0) (.exit 0) (pR dl sk dc u bib pl num a0 b1 Ks Rj))(D8:aD Tp 0 xK (pT dl sk dc u bib pl num a0 b1 Ks 0) (.exit 2) (pT dl sk dc u bib pl num a0 b1 Vb Rk))(Be:(cY dl sk dc)=Vb)(Bo:(cY dl sk dc)=(cY dl sk dc))(Cl:(false == false)=true)(Ec:uni 2 sk∧sk.length≤1000)(Gx:uni 6 dc∧dc.length≤1000)(G4:(decide (dl=dl∧sk=sk∧dc=dc))=true)(Jw:∀ {base:Nat},FV Tp 26 [] base (pB true) []):FV Tp 12 [(.p (.agg (bC dl sk dc))),(.p (aF u)),(pI bib),(pI pl),(pI num)] base (pB true) []:=have k1:=fk 1 (aGc dl sk dc 5 14) rfl;have k2:=fk 1 (aWl dl sk dc h2 h3 h4 h5) rfl;have k3:=fk 17 (aWp dl sk dc h2 h4 h3 h5) rfl;have k4:=fk 27 (aWn dl sk dc h2 h4) rfl;have k5:=fk 27 h8 rfl;have k6:=fk 3 (cCf h2 h4 h7 u) rfl;have k7:=fk 3 (aNd dl sk dc dl sk dc Ec Gx h2 h4) rfl;FV.fi func12 ([k1.o]++rF 5++[k2.o,.c (.p (aF u)) [],k3.o,k4.o,k5.o,bF,bF,.g 1 ⟨[],[0,25,26,27],[28],[]⟩,Hn.k 6 (gI av [0,1,3]),D8.k 4 (gI aw [0,1,2]),k6.o,bF,bF,bF,bT,bT,bT,bF,bT]++rF 19++[.c (.tup [(pB false),(pI (cY dl sk dc))]) []]++rF 14++[.c (.tup [(.p cC),(pB false),(pI (cY dl sk dc))]) [],.c (.tup [(.p cC),(pI (cY dl sk dc))]) []]++rT 18++[k7.o,bT,bT,.c (pB true) [],bT]) (gc G4 (gc (fk 3 Jw rfl) (gc G4 (gt (true=true) rfl (gc k7 (gt (true=true) rfl (gt (true=true) rfl (gt (true=true) rfl (Ak pQ (Aq (bX Bo) (gt (inR 0) (by show _∧_;omega) (E1 (bX Bo) (gc (bX Bo) (gc (fH h7) (gt (FC Tp 72 [(.p (.agg (bC dl sk dc))),(pI bib),(pI pl)] [] 3 (.tup [(.p cC),(pI (cY dl sk dc))]) []) (FV.fc (cDz h2 h4 h7 rfl) rfl) (gt (FC Tp 71 [(.p (.agg (bC dl sk dc))),(pI bib)] [] 3 (.tup [(.p cC),(pB false),(pI (cY dl sk dc))]) []) (FV.fc (cLb h2 h4 h7 rfl) rfl) (gc (aS h7) (gc (aR Cl) (Aq (bG Bo) (gc (aS h7) (gc (bG Bo) (Au (aS h7) (Au (bG Bo) (gt (FC Tp 58 [(.p (.agg (bC dl sk dc))),(pI num)] [] 3 (.tup [(pB false),(pI (cY dl sk dc))]) []) (FV.fc (cKh h2 h4 h7 rfl) rfl) (B0 (aS h7) (gc aAm (gc (aS h7) (gc aAm (Ja (aS h7) (Ak aAm (gc (bG Be) (gc (fH h7) (gc (bG Be) (Ak (fH h7) (Ak (bG Be) (gc k6 (gc D8.code (gc Hn.code (gt ((decide ((0:Int) > 5))=false) (by first | decide | simp) (gc (aS h7) (gc k5 (gc k4 (gc k3 (gc (fk 9 (bAd u h6) rfl) (gc k2 (gc (aK h1) (Au h0 (gc k1 gn))))))))))))))))))))))))))))))))))))))))))))))))
theorem bEw(h0:(i:Int)<(u.length:Int))(h1:u[i]? = some Aj)(h2:w≠0)(h3:gk i)(Ai:i'=(i+1)):aC Tp 0 sE (pR dl sk dc u bib pl num a0 b1 w i) .normal (pR dl sk dc u bib pl num a0 b1 w i'):=by
 subst Ai;exact aC.fi (gI av [0,1,2]) [bT,.x (aB Aj),bF,bF,bF] (gc h3 (Ak (aS h2) (gc (atm aB h1) (gc (ixn aB h1) (g0 h0)))))
theorem bEx(h0:(u.length:Int)≤(i:Int)):aC Tp 0 sE (pR dl sk dc u bib pl num a0 b1 w i) (.exit 0) (pR dl sk dc u bib pl num a0 b1 w i):=aC.fi (gI av [0,1,2]) [bF] (gc (aK h0) gn)
theorem bEy(h0:(i:Int)<(u.length:Int))(h1:u[i]? = some Gg)(h2:(cY dl sk dc)≠0)(h3:gk i)(Ai:i'=(i+1)):aC Tp 0 xK (pT dl sk dc u bib pl num a0 b1 w i) .normal (pT dl sk dc u bib pl num a0 b1 w i'):=by
 subst Ai;exact aC.fi (gI aw [0,1,2]) ([bT,.x (aB Gg)]++rF 5) (gc h3 (B0 (aS h2) (gc (atm aB h1) (gc (ixn aB h1) (g0 h0)))))
theorem bEz(h0:(u.length:Int)≤(i:Int)):aC Tp 0 xK (pT dl sk dc u bib pl num a0 b1 w i) (.exit 2) (pT dl sk dc u bib pl num a0 b1 w i):=aC.fi (gI aw [0,1,2]) [bF] (gc (aK h0) gn)
def kA:St:=⟨fr 364 [(10,(pB true))],[]⟩
abbrev ai(dl:Int)(sk dc:Lqq):Mem:=[some (.box 26 [(pI dl),(.p (fS sk)),(.p (fS dc))]),some (.box 26 [(pI dl),(.p (fS sk)),(.p (fS dc))]),some (.box 61 [(pI dl),(.p (.sl ((aA sk).length) ((aA sk).flatten.map aB))),(.p (.sl ((aA dc).length) ((aA dc).flatten.map aB)))])]
def jL(dl:Int)(sk dc:Lqq)(u:List Int)(bib pl num w:Int)(i:Nat):St:=⟨fr 364 [(1,(.p (aF u))),(2,(pI bib)),(3,(pI pl)),(4,(pI num)),(5,(.ptr 0 0)),(10,(.kb false)),(11,(.ptr 1 0)),(12,(.p (aF u))),(14,(pI (cY dl sk dc))),(15,(.ptr 2 0)),(16,(.rp [(aF (aJ dl (aA dc)))] 0)),(17,(.fn 69 [] [(.rp [(aF (aJ dl (aA dc)))] 0)])),(18,(pI w)),(73,(.p (aF u))),(74,(pI (u.length:Int))),(75,(pI (i:Int)))],(ai dl sk dc)⟩
def mX(dl:Int)(sk dc:Lqq)(u:List Int)(bib pl num w:Int)(i:Nat):St:=⟨fr 364 [(1,(.p (aF u))),(2,(pI bib)),(3,(pI pl)),(4,(pI num)),(5,(.ptr 0 0)),(10,(.kb false)),(11,(.ptr 1 0)),(12,(.p (aF u))),(14,(pI (cY dl sk dc))),(15,(.ptr 2 0)),(16,(.rp [(aF (aJ dl (aA dc)))] 0)),(17,(.fn 69 [] [(.rp [(aF (aJ dl (aA dc)))] 0)])),(18,(pI w)),(96,(.p (aF u))),(97,(pI (u.length:Int))),(98,(pI (i:Int)))],(ai dl sk dc)⟩
def aMy(dl:Int)(sk dc:Lqq)(u:List Int)(bib pl num Ks:Int):St:=⟨fr 364 [(1,(.p (aF u))),(2,(pI bib)),(3,(pI pl)),(4,(pI num)),(5,(.ptr 0 0)),(11,(.ptr 1 0)),(12,(.p (aF u))),(14,(pI (cY dl sk dc))),(15,(.ptr 2 0)),(16,(.rp [(aF (aJ dl (aA dc)))] 0)),(17,(.fn 69 [] [(.rp [(aF (aJ dl (aA dc)))] 0)])),(18,(pI Ks))],(ai dl sk dc)⟩
section
variable(h0:(wD sk dc 5 14)=false)(h1:(u.length:Int)≤12)(h2:uni 2 sk)(h3:sk.length≤1000)(h4:uni 6 dc)(h5:dc.length≤1000)(h6:u.length≤1000)(h7:(cY dl sk dc)=0)(h8:bO dl sk dc)(h9:bP (aA dc))
include h0 h1 h2 h3 h4 h5 h6 h7 h8 h9
theorem cEd(A8:(5:Int)<((aJ dl (aA dc)).length:Int))(Be:∀ {base:Nat},FV Tp 26 [] base (pB true) []):FV Tp 12 [(.p (.agg (bC dl sk dc))),(.p (aF u)),(pI bib),(pI pl),(pI num)] base (pB true) []:=have k1:=fk 1 (aGc dl sk dc 5 14) rfl;have k2:=fk 1 (aWl dl sk dc h2 h3 h4 h5) rfl;have k3:=fk 17 (aWp dl sk dc h2 h4 h3 h5) rfl;have k4:=fk 27 (aWn dl sk dc h2 h4) rfl;have k5:=fk 27 (bRx dl sk dc h8) rfl;have k6:=fk 29 (bRs (dl:=dl) (sk:=(aA sk)) h9) rfl;FV.fi func12 ([k1.o]++rF 5++[k2.o,.c (.p (aF u)) [],k3.o,k4.o,k5.o,bT,k6.o,bT,.c (pB true) []]) (gc (fk 29 Be rfl) (gc (bI A8) (gc k6 (gc (bX h7) (gc k5 (gc k4 (gc k3 (gc (fk 9 (bAd u h6) rfl) (gc k2 (gc (aK h1) (Au h0 (gc k1 gn))))))))))))
theorem cEe{Sw:Int}{E0:Nat}(A8:((aJ dl (aA dc)).length:Int)≤5)(Jy:aD Tp 0 sE (jL dl sk dc u bib pl num (cY dl sk dc) 0) (.exit 0) (jL dl sk dc u bib pl num Sw E0))(Ho:aD Tp 0 xK (mX dl sk dc u bib pl num Sw 0) (.exit 2) (mX dl sk dc u bib pl num Ks Rj))(Jz:aC Tp 0 aVj (aMy dl sk dc u bib pl num Ks) .ret kA):FV Tp 12 [(.p (.agg (bC dl sk dc))),(.p (aF u)),(pI bib),(pI pl),(pI num)] base (pB true) []:=have k1:=fk 1 (aGc dl sk dc 5 14) rfl;have k2:=fk 1 (aWl dl sk dc h2 h3 h4 h5) rfl;have k3:=fk 17 (aWp dl sk dc h2 h4 h3 h5) rfl;have k4:=fk 27 (aWn dl sk dc h2 h4) rfl;have k5:=fk 27 (bRx dl sk dc h8) rfl;have k6:=fk 29 (bRs (dl:=dl) (sk:=(aA sk)) h9) rfl;FV.fi func12 ([k1.o]++rF 5++[k2.o,.c (.p (aF u)) [],k3.o,k4.o,k5.o,bT,k6.o,bF,.g 1 ⟨[],[0,25,26,27],[28],[]⟩,Jy.k 6 (gI av [0,1,3]),Ho.k 4 (gI aw [0,1,2]),Jz.k 0 (gI [0,1,6,5,13,1,19,345] [0,1,2])]) (gc Jz (gc Ho.code (gc Jy.code (gc (aK A8) (gc k6 (gc (bX h7) (gc k5 (gc k4 (gc k3 (gc (fk 9 (bAd u h6) rfl) (gc k2 (gc (aK h1) (Au h0 (gc k1 gn))))))))))))))
end
section
variable(h0:(i:Int)<(u.length:Int))(h1:u[i]? = some Aj)(h2:w=0)(h3:(0:Int)<(i:Int))(h4:inR ((i:Int)-1))(h5:u[((i:Int)-1).toNat]? = some Cr)(h6:0≤((i:Int)-1))
include h0 h1 h2 h3 h4 h5 h6
theorem bFa(h7:Aj≤Cr)(h8:gk i)(Sx:w'=(4:Int))(Ai:i'=(i+1)):aC Tp 0 sE (jL dl sk dc u bib pl num w i) .normal (jL dl sk dc u bib pl num w' i'):=by
 subst Sx Ai;exact aC.fi (gI av [0,1,2]) ([bT,.x (aB Aj)]++rT 9++[.x (aB Cr),bT,bT,bT]) (gc h8 (gc (oQ h7) (Aq (bI h3) (gt ((u.map aB)[(((i:Int)-1).toNat*1)]? = some (aB Cr)) (sA (i:=((i:Int)-1).toNat) h5) (gc (bI h3) (gc (sC (g:=aB) h6 h5) (gc (bI h3) (gc h4 (Au (bI h3) (Ak (bX h2) (gc (atm aB h1) (gc (ixn aB h1) (g0 h0)))))))))))))
theorem bFb(h7:Cr<Aj)(h8:gk i)(Ai:i'=(i+1)):aC Tp 0 sE (jL dl sk dc u bib pl num w i) .normal (jL dl sk dc u bib pl num w i'):=by
 subst Ai;exact aC.fi (gI av [0,1,2]) ([bT,.x (aB Aj)]++rT 9++[.x (aB Cr),bT,bT,bF]) (gc h8 (gc (kZ h7) (Aq (bI h3) (gt ((u.map aB)[(((i:Int)-1).toNat*1)]? = some (aB Cr)) (sA (i:=((i:Int)-1).toNat) h5) (gc (bI h3) (gc (sC (g:=aB) h6 h5) (gc (bI h3) (gc h4 (Au (bI h3) (Ak (bX h2) (gc (atm aB h1) (gc (ixn aB h1) (g0 h0)))))))))))))
end
section
variable(h0:(i:Int)<(u.length:Int))(h1:u[i]? = some Aj)
include h0 h1
theorem bFc(h2:w=0)(h3:(i:Int)≤0)(h4:gk i)(Ai:i'=(i+1)):aC Tp 0 sE (jL dl sk dc u bib pl num w i) .normal (jL dl sk dc u bib pl num w i'):=by
 subst Ai;exact aC.fi (gI av [0,1,2]) ([bT,.x (aB Aj),bT,bT,bT]++rF 8) (gc h4 (E1 (aK h3) (Ak (bX h2) (gc (atm aB h1) (gc (ixn aB h1) (g0 h0))))))
theorem bFd(h2:w≠0)(h3:gk i)(Ai:i'=(i+1)):aC Tp 0 sE (jL dl sk dc u bib pl num w i) .normal (jL dl sk dc u bib pl num w i'):=by
 subst Ai;exact aC.fi (gI av [0,1,2]) [bT,.x (aB Aj),bF,bF,bF] (gc h3 (Ak (aS h2) (gc (atm aB h1) (gc (ixn aB h1) (g0 h0)))))
end
theorem bFe(h0:(u.length:Int)≤(i:Int)):aC Tp 0 sE (jL dl sk dc u bib pl num w i) (.exit 0) (jL dl sk dc u bib pl num w i):=aC.fi (gI av [0,1,2]) [bF] (gc (aK h0) gn)
section
variable(h0:(i:Int)<(u.length:Int))(h1:u[i]? = some Gg)(h2:(cY dl sk dc)=0)(h3:(aJ dl (aA dc)).length≤1000)
include h0 h1 h2 h3
theorem bFf(h4:((aJ dl (aA dc)).contains Gg)=false)(h5:gk i)(Sx:w'=(1:Int))(Ai:i'=(i+1)):aC Tp 0 xK (mX dl sk dc u bib pl num w i) .normal (mX dl sk dc u bib pl num w' i'):=by
 subst Sx Ai;have k1:=fk 3 (aAp (aJ dl (aA dc)) Gg h3) rfl;exact aC.fi (gI aw [0,1,2]) [bT,.x (aB Gg),bT,bT,bT,k1.o,bT,bT,bT] (gc h5 (gc (bN h4) (Aq (bX h2) (gc k1 (Ak (bX h2) (gc (atm aB h1) (gc (ixn aB h1) (g0 h0))))))))
theorem bFg(h4:((aJ dl (aA dc)).contains Gg)=true)(h5:gk i)(Ai:i'=(i+1)):aC Tp 0 xK (mX dl sk dc u bib pl num w i) .normal (mX dl sk dc u bib pl num w i'):=by
 subst Ai;have k1:=fk 3 (aAp (aJ dl (aA dc)) Gg h3) rfl;exact aC.fi (gI aw [0,1,2]) [bT,.x (aB Gg),bT,bT,bT,k1.o,bT,bT,bF] (gc h5 (gc (aR h4) (Aq (bX h2) (gc k1 (Ak (bX h2) (gc (atm aB h1) (gc (ixn aB h1) (g0 h0))))))))
end
theorem bFh(h0:(u.length:Int)≤(i:Int)):aC Tp 0 xK (mX dl sk dc u bib pl num w i) (.exit 2) (mX dl sk dc u bib pl num w i):=aC.fi (gI aw [0,1,2]) [bF] (gc (aK h0) gn)
def aFy(dl:Int)(sk dc:Lqq)(u:List Int)(bib pl num:Int):St:=⟨fr 364 [(1,(.p (aF u))),(2,(pI bib)),(3,(pI pl)),(4,(pI num)),(5,(.ptr 0 0)),(11,(.ptr 1 0)),(12,(.p (aF u))),(14,(pI (cY dl sk dc))),(15,(.ptr 2 0)),(16,(.rp [(aF (aJ dl (aA dc)))] 0)),(17,(.fn 69 [] [(.rp [(aF (aJ dl (aA dc)))] 0)]))],(ai dl sk dc)⟩
theorem bFi(h0:(cY dl sk dc)=0)(h1:bO dl sk dc)(h2:u.length≤1000)(h3:sk.length<20)(h4:sX dl (aA dc) u=0)(h5:(0:Int)=Ks)(h6:uni 3 (bM dl u (aA dc) (aA sk)))(h7:(bM dl u (aA dc) (aA sk)).length≤1000)(h8:bP (aA dc))(h9:uni 2 (aA sk))(A8:(aA sk).length≤100)(Be:(aA sk).Pairwise fun a b=>a.getD 0 0<b.getD 0 0)(Bo:∀ s∈(aA sk),-1≤sT s∧sT s≤360000)(Jz:aC Tp 0 aMu (aFy dl sk dc u bib pl num) .ret kA):aC Tp 0 aVj (aMy dl sk dc u bib pl num Ks) .ret kA:=have k1:=fk 3 (bVj h1 h3 u h2 h4) rfl;have k2:=fk 13 (xY (dl:=dl) h8 h2 h9 A8 Be Bo) rfl;aC.fi (gZ g6) ([k1.o]++rF 9++[bT,bT,.c (.p (.sl ((bM dl u (aA dc) (aA sk)).length) ((bM dl u (aA dc) (aA sk)).flatten.map aB))) [(3,.dead)],bT,bT,bT,k2.o,bT,.c (pB true) [],bT,bT,bF,Jz.k 0 (gI [0,1,6,5,13,1,18,346] [0,1,2])]) (gc Jz (gf (Aq pQ (gc (fk 21 (cEs (bM dl u (aA dc) (aA sk)) h6 h7) rfl) (gc pQ (gc k2 (Ak pQ (gt (FC Tp 43 [(.own 3)] [(3,(.row 48 ((bM dl u (aA dc) (aA sk)).length) ((bM dl u (aA dc) (aA sk)).flatten.map aB)))] 5 (.p (.sl ((bM dl u (aA dc) (aA sk)).length) ((bM dl u (aA dc) (aA sk)).flatten.map aB))) [(3,.dead)]) (FV.close (ids:=[3]) (A1:=[(.p (.sl ((bM dl u (aA dc) (aA sk)).length) ((bM dl u (aA dc) (aA sk)).flatten.map aB)))]) (cEt (bM dl u (aA dc) (aA sk)) h6 h7) (by kernel_rfl)) (Aq pQ (gc (bG h5) (gc aAl (gc (bG h5) (Ak aAl (Ak (bG h5) (gc k1 gn)))))))))))))))
theorem bFj{Nc:Int}(h0:(cY dl sk dc)=0)(h1:bO dl sk dc)(h2:u.length≤1000)(h3:sX dl (aA dc) u=Nc)(h4:Nc≠0)(h5:Nc=Ks)(E8:aC Tp 0 aMu (aFy dl sk dc u bib pl num) .ret kA):aC Tp 0 aVj (aMy dl sk dc u bib pl num Ks) .ret kA:=have k1:=fk 3 (bXh h1 u h2 h3 h4) rfl;aC.fi (gZ g6) ([k1.o,bF,bF,bF,bT,bT,bT,bF,bT]++rF 14++[E8.k 1 (gI [0,1,6,5,13,1,18,346] [0,1,2])]) (gc E8 (gc aAm (gc (aS h4) (gc aAm (Ja (aS h4) (Ak aAm (gc (bG h5) (gc (fH h4) (gc (bG h5) (Ak (fH h4) (Ak (bG h5) (gc k1 gn))))))))))))
def aAn(dl:Int)(sk dc:Lqq)(u:List Int)(bib pl:Int):St:=⟨fr 364 [(1,(.p (aF u))),(2,(pI bib)),(3,(pI pl)),(5,(.ptr 0 0)),(11,(.ptr 1 0)),(12,(.p (aF u))),(14,(pI (cY dl sk dc))),(15,(.ptr 2 0)),(16,(.rp [(aF (aJ dl (aA dc)))] 0)),(17,(.fn 69 [] [(.rp [(aF (aJ dl (aA dc)))] 0)]))],(ai dl sk dc)⟩
section
variable(h0:(cY dl sk dc)=0)(h1:(aJ dl (aA dc)).length≤1000)
include h0 h1
theorem bFk(h2:((aJ dl (aA dc)).contains num)=false)(h3:bO dl sk dc)(h4:uW dl sk dc num=(false,1))(h5:(false == false)=true)(E8:aC Tp 0 aFw (aAn dl sk dc u bib pl) .ret kA):aC Tp 0 aMu (aFy dl sk dc u bib pl num) .ret kA:=have k1:=fk 3 (aAp (aJ dl (aA dc)) num h1) rfl;have k2:=fk 3 (bVp h3 h4) rfl;aC.fi (gZ g6) ([bT,bT,bT,k1.o,bT,bT,bT,k2.o]++rF 13++[E8.k 0 (gI [0,1,4,1,6,5,13,1,18,346] [0,1,2])]) (gc E8 (gc (aR h5) (Aq aVk (gc bRl (gc aVk (Au bRl (Au aVk (gc k2 (gc (bN h2) (Aq (bX h0) (gc k1 (Ak (bX h0) gn))))))))))))
theorem bFl{Hp:Bool}(h2:((aJ dl (aA dc)).contains num)=true)(h3:bO dl sk dc)(h4:uW dl sk dc num=(Hp,0))(h5:(0:Int)=(cY dl sk dc))(h6:bP (aA dc))(h7:uni 2 (aA sk))(h8:(aA sk).length≤100)(h9:(aA sk).Pairwise fun a b=>a.getD 0 0<b.getD 0 0)(A8:∀ s∈(aA sk),-1≤sT s∧sT s≤360000)(Be:(aJ dl (aA dc)).length≤8)(Bo:aVn dl (aA sk) (aA dc) num (aJ dl (aA dc))=Hp)(Cl:(Hp == Hp)=true)(O6:aC Tp 0 aFw (aAn dl sk dc u bib pl) .ret kA):aC Tp 0 aMu (aFy dl sk dc u bib pl num) .ret kA:=have k1:=fk 3 (aAp (aJ dl (aA dc)) num h1) rfl;have k2:=fk 3 (bVp h3 h4) rfl;aC.fi (gZ g6) [bT,bT,bT,k1.o,bT,bT,bF,k2.o,bF,bF,bF,bF,bT,bT,bT,.x (aF (aJ dl (aA dc))),bT,.c (pB Hp) [],bF,bT,bF,bF,bF,O6.k 0 (gI [0,1,4,1,6,5,13,1,18,346] [0,1,2])] (gc O6 (gc (aR Cl) (Aq (bG h5) (gc (bX h0) (gc (bG h5) (gc (fk 3 (cEf h6 h7 h8 h9 A8 Be Bo) rfl) (gc (bX h0) (gr (aF (aJ dl (aA dc))) (Ak (bX h0) (Au (bG h5) (gc k2 (gc (aR h2) (Aq (bX h0) (gc k1 (Ak (bX h0) gn)))))))))))))))
end
def jM(dl:Int)(sk dc:Lqq)(u:List Int)(bib pl x:Int)(i:Nat):St:=⟨fr 364 [(1,(.p (aF u))),(2,(pI bib)),(3,(pI pl)),(5,(.ptr 0 0)),(11,(.ptr 1 0)),(12,(.p (aF u))),(14,(pI x)),(15,(.ptr 2 0)),(16,(.rp [(aF (aJ dl (aA dc)))] 0)),(17,(.fn 69 [] [(.rp [(aF (aJ dl (aA dc)))] 0)])),(175,(.p (fS sk))),(176,(pI (sk.length:Int))),(177,(pI (i:Int)))],(ai dl sk dc)⟩
def mY(dl:Int)(sk dc:Lqq)(u:List Int)(bib pl:Int)(A5:List Int)(Bg:Bool)(ov:PV)(fe:Int)(rsn:Nat)(rsc:List PV)(can:Bool)(i:Nat):St:=⟨fr 364 [(1,(.p (aF u))),(2,(pI bib)),(3,(pI pl)),(5,(.ptr 0 0)),(11,(.ptr 1 0)),(12,(.p (aF u))),(15,(.ptr 2 0)),(17,(.fn 69 [] [(.rp [(aF (aJ dl (aA dc)))] 0)])),(24,(pI 0)),(29,(.p (aF A5))),(30,(pB Bg)),(31,(.p ov)),(32,(pI fe)),(33,(.own 3)),(34,(pB can)),(231,(.p (.sl ((cL (aJ dl (aA dc))).length) (((cL (aJ dl (aA dc))).map oiE).flatten)))),(232,(pI ((cL (aJ dl (aA dc))).length:Int))),(233,(pI (i:Int)))],[some (.box 26 [(pI dl),(.p (fS sk)),(.p (fS dc))]),some (.box 26 [(pI dl),(.p (fS sk)),(.p (fS dc))]),some (.box 61 [(pI dl),(.p (.sl ((aA sk).length) ((aA sk).flatten.map aB))),(.p (.sl ((aA dc).length) ((aA dc).flatten.map aB)))]),some (.row 71 rsn rsc)]⟩
def mZ(dl:Int)(sk dc:Lqq)(u:List Int)(bib pl:Int)(A2:List Int)(i:Nat):St:=⟨fr 364 [(1,(.p (aF u))),(2,(pI bib)),(3,(pI pl)),(5,(.ptr 0 0)),(11,(.ptr 1 0)),(12,(.p (aF u))),(15,(.ptr 2 0)),(17,(.fn 69 [] [(.rp [(aF (aJ dl (aA dc)))] 0)])),(31,(.p (aF A2))),(32,(pI 0)),(305,(.p (aF A2))),(306,(pI (A2.length:Int))),(307,(pI (i:Int)))],(ai dl sk dc)⟩
def nA(dl:Int)(sk dc:Lqq)(u:List Int)(bib pl:Int)(A2:List Int)(i:Nat):St:=⟨fr 364 [(1,(.p (aF u))),(2,(pI bib)),(3,(pI pl)),(5,(.ptr 0 0)),(11,(.ptr 1 0)),(12,(.p (aF u))),(32,(pI 0)),(332,(.p (.sl ((bM dl A2 (aA dc) (aA sk)).length) ((bM dl A2 (aA dc) (aA sk)).flatten.map aB)))),(333,(pI ((bM dl A2 (aA dc) (aA sk)).length:Int))),(334,(pI (i:Int)))],[some (.box 26 [(pI dl),(.p (fS sk)),(.p (fS dc))]),some (.box 26 [(pI dl),(.p (fS sk)),(.p (fS dc))])]⟩
section
variable(h0:(cY dl sk dc)=0)(hl1:aD Tp 0 aAk (jM dl sk dc u bib pl 1 0) (.exit 4) (jM dl sk dc u bib pl El Ip))(h2:bO dl sk dc)(h3:oI (aA sk) bib=(E7:Int))(h4:(aA sk)[E7]? = some [E5,E6])(h5:(aJ dl (aA dc)).length≤8)(h6:jQ (aG dl (aA sk) (aA dc)) E7 (hpM dl (aA dc) [E5,E6]).1=A5)(h7:((hpM dl (aA dc) [E5,E6]).1.any fun x=>x.2.1)=Bg)
include h0 hl1 h2 h3 h4 h5 h6 h7
theorem bFm{Cm:List (Lqq)}{Hq:Bool}{Nf:Nat}(h8:zV (aG dl (aA sk) (aA dc)) E7 pl (hpM dl (aA dc) [E5,E6]).1=none)(h9:El=0)(D8:aD Tp 0 aMv (mY dl sk dc u bib pl A5 Bg cC 6 0 [] false 0) (.exit 6) (mY dl sk dc u bib pl A5 Bg cC 6 Cm.length ((Cm.map reE).flatten) Hq Nf))(Be:∀ r∈Cm,uni 3 r∧r.length≤1000)(Bo:Cm.length≤1000)(Cl:plR Cm bib=A5)(Ec:gnR Cm bib=Bg)(Gx:A5.length≤1000)(G4:(decide (A5=A5))=true)(Jw:(Bg == Bg)=true)(K5:Hq=false)(O7:uni 2 sk∧sk.length≤1000)(Ng:uni 6 dc∧dc.length≤1000)(O8:uni 2 sk)(O9:uni 6 dc)(Rl:(decide (dl=dl∧sk=sk∧dc=dc))=true)(Sy:∀ {base:Nat},FV Tp 26 [] base (pB true) []):aC Tp 0 aFw (aAn dl sk dc u bib pl) .ret kA:=have k1:=fk 3 (bVz h2 h3 h4 h5 h6 h7) rfl;have k2:=fk 3 (aMz (op:=(aJ dl (aA dc))) h5) rfl;have k3:=fk 4 (aHa A5 A5 Gx) rfl;have k4:=fk 4 (aNd dl sk dc dl sk dc O7 Ng O8 O9) rfl;aC.fi (gZ g6) ([bT,hl1.k 5 (gI ar [0,1,2]),k1.o,.c (.tup [(.p cC),(pI 6)]) [],bF,.x (aF (aJ dl (aA dc))),k2.o,D8.k 1 (gN ap ge [(33,71),(34,0)]),.c (.tup [(.p (aF A5)),(pB Bg)]) [(3,.dead)],bF,bF,bF,k3.o]++rF 7++rT 8++[k4.o,bT,bT,.c (pB true) [],bT]) (gc Rl (gc (fk 4 Sy rfl) (gc Rl (gc pQ (gc k4 (Ak pQ (Au cDx (gc (bN K5) (gc (aR Jw) (Au (aR G4) (Aq aAl (gc k3 (Ak aAl (gt (FC Tp 40 [(.own 3),(pI bib)] [(3,(.row 71 Cm.length ((Cm.map reE).flatten)))] 4 (.tup [(.p (aF A5)),(pB Bg)]) [(3,.dead)]) (FV.close (ids:=[3]) (A1:=[(.p (.sl Cm.length ((Cm.map reE).flatten))),(pI bib)]) (bRn Be Bo Cl Ec) (by kernel_rfl)) (gc D8.code (gc k2 (gr (aF (aJ dl (aA dc))) (gc (bG h9) (gc (fk 3 ((bBc h2 h3 h4 h5).1 h8 _) rfl) (gc k1 (gc hl1.code (gc (bX h0) gn))))))))))))))))))))))
theorem aVl{Cn:List (Lqq)}{Hr:Bool}{Nh Ni Nj:Nat}(h8:zV (aG dl (aA sk) (aA dc)) E7 pl (hpM dl (aA dc) [E5,E6]).1=some A2)(h9:El=0)(D8:aD Tp 0 aMv (mY dl sk dc u bib pl A5 Bg (aF A2) 0 0 [] false 0) (.exit 6) (mY dl sk dc u bib pl A5 Bg (aF A2) 0 Cn.length ((Cn.map reE).flatten) Hr Nh))(Be:∀ r∈Cn,uni 3 r∧r.length≤1000)(Bo:Cn.length≤1000)(Cl:plR Cn bib=A5)(Ec:gnR Cn bib=Bg)(Gx:A5.length≤1000)(G4:(decide (A5=A5))=true)(Jw:(Bg == Bg)=true)(K5:Hr=true)(Pb:aD Tp 0 aMw (mZ dl sk dc u bib pl A2 0) (.exit 10) (mZ dl sk dc u bib pl A2 Ni))(Ng:bP (aA dc))(O8:A2.length≤1000)(O9:uni 2 (aA sk))(Rl:(aA sk).length≤100)(Sy:(aA sk).Pairwise fun a b=>a.getD 0 0<b.getD 0 0)(Wt:∀ s∈(aA sk),-1≤sT s∧sT s≤360000)(Pd:aD Tp 0 aMx (nA dl sk dc u bib pl A2 0) (.exit 12) (nA dl sk dc u bib pl A2 Nj))(Wu:uni 2 sk∧sk.length≤1000)(Sz:uni 6 dc∧dc.length≤1000)(Wv:uni 2 sk)(Ww:uni 6 dc)(Vd:(decide (dl=dl∧sk=sk∧dc=dc))=true)(Wx:u.length≤1000)(Md:(decide (u=u))=true)(Wy:∀ {base:Nat},FV Tp 26 [] base (pB true) []):aC Tp 0 aFw (aAn dl sk dc u bib pl) .ret kA:=have k1:=fk 3 (bVz h2 h3 h4 h5 h6 h7) rfl;have k2:=fk 3 (aMz (op:=(aJ dl (aA dc))) h5) rfl;have k3:=fk 4 (aHa A5 A5 Gx) rfl;have k4:=fk 3 (xY (dl:=dl) Ng O8 O9 Rl Sy Wt) rfl;have k5:=fk 2 (aNd dl sk dc dl sk dc Wu Sz Wv Ww) rfl;have k6:=fk 2 (aHa u u Wx) rfl;aC.fi (gZ g6) ([bT,hl1.k 5 (gI ar [0,1,2]),k1.o,.c (.tup [(.p (aF A2)),(pI 0)]) [],bF,.x (aF (aJ dl (aA dc))),k2.o,D8.k 1 (gN ap ge [(33,71),(34,0)]),.c (.tup [(.p (aF A5)),(pB Bg)]) [(3,.dead)],bF,bF,bF,k3.o]++rF 8++[Pb.k 4 (gI ay [0,1,2]),k4.o,Pd.k 1 (gI bi [0,1]),bT,bT,bT,k5.o,bT,bT,bT,bT,k6.o,bT,bT,.c (pB true) [],bT]) (gc Md (gc (fk 2 Wy rfl) (gc Md (gc Vd (gc k6 (Ak Vd (gc pQ (gc k5 (Ak pQ (gc Pd.code (gc k4 (gc Pb.code (gc (aR K5) (gc (aR Jw) (Au (aR G4) (Aq aAl (gc k3 (Ak aAl (gt (FC Tp 40 [(.own 3),(pI bib)] [(3,(.row 71 Cn.length ((Cn.map reE).flatten)))] 4 (.tup [(.p (aF A5)),(pB Bg)]) [(3,.dead)]) (FV.close (ids:=[3]) (A1:=[(.p (.sl Cn.length ((Cn.map reE).flatten))),(pI bib)]) (bRn Be Bo Cl Ec) (by kernel_rfl)) (gc D8.code (gc k2 (gr (aF (aJ dl (aA dc))) (gc (bG h9) (gc (fk 3 ((bBc h2 h3 h4 h5).2 _ h8 _) rfl) (gc k1 (gc hl1.code (gc (bX h0) gn)))))))))))))))))))))))))))
end
theorem aVm(h0:(cY dl sk dc)=0)(hl1:aD Tp 0 aAk (jM dl sk dc u bib pl 1 0) (.exit 4) (jM dl sk dc u bib pl El Ip))(h2:bO dl sk dc)(h3:oI (aA sk) bib = -1)(h4:El≠0)(h5:(1:Int)=El)(h6:uni 2 sk∧sk.length≤1000)(h7:uni 6 dc∧dc.length≤1000)(h8:uni 2 sk)(h9:uni 6 dc)(A8:(decide (dl=dl∧sk=sk∧dc=dc))=true)(Be:∀ {base:Nat},FV Tp 26 [] base (pB true) []):aC Tp 0 aFw (aAn dl sk dc u bib pl) .ret kA:=have k1:=fk 3 (cLa h2 h3) rfl;have k2:=fk 3 (aNd dl sk dc dl sk dc h6 h7 h8 h9) rfl;aC.fi (gZ g6) ([bT,hl1.k 5 (gI ar [0,1,2]),k1.o,.c (.tup [(.p cC),(pI 1)]) []]++rT 18++[k2.o,bT,bT,.c (pB true) [],bT]) (gc A8 (gc (fk 3 Be rfl) (gc A8 (gt (true=true) rfl (gc k2 (gt (true=true) rfl (gt (true=true) rfl (gt (true=true) rfl (Ak pQ (Aq (bX h5) (gt (inR 0) (by show _∧_;omega) (E1 (bX h5) (gc (bX h5) (gc (fH h4) (gt (FC Tp 72 [(.p (.agg (bC dl sk dc))),(pI bib),(pI pl)] [] 3 (.tup [(.p cC),(pI 1)]) []) (FV.fc (cDy h2 h3) rfl) (gc k1 (gc hl1.code (gc (bX h0) gn))))))))))))))))))
section
variable(h0:(i:Int)<(sk.length:Int))(h1:sk[i]? = some [F4,Cs])(h2:uni 2 sk)
include h0 h1 h2
theorem bFn{x':Int}(h3:F4=bib)(h4:gk i)(Wz:x'=(0:Int))(Ai:i'=(i+1)):aC Tp 0 aAk (jM dl sk dc u bib pl x i) .normal (jM dl sk dc u bib pl x' i'):=by
 subst Wz Ai;exact aC.fi (gI ar [0,1,2]) [bT,.x (.agg [(aB F4),(aB Cs)]),bT] (gc h4 (gc (bX h3) (gfl h2 h1 (g0 h0))))
theorem bFo(h3:F4≠bib)(h4:gk i)(Ai:i'=(i+1)):aC Tp 0 aAk (jM dl sk dc u bib pl x i) .normal (jM dl sk dc u bib pl x i'):=by
 subst Ai;exact aC.fi (gI ar [0,1,2]) [bT,.x (.agg [(aB F4),(aB Cs)]),bF] (gc h4 (gc (aS h3) (gfl h2 h1 (g0 h0))))
end
theorem bFp(h0:(sk.length:Int)≤(i:Int)):aC Tp 0 aAk (jM dl sk dc u bib pl x i) (.exit 4) (jM dl sk dc u bib pl x i):=aC.fi (gI ar [0,1,2]) [bF] (gc (aK h0) gn)
def lA(dl:Int)(sk dc:Lqq)(u:List Int)(bib pl:Int)(A5:List Int)(Bg:Bool)(ov:PV)(fe:Int)(rs:List (Lqq))(i:Nat)(Bw:List Int)(cn:Bool)(k:Nat):St:=⟨fr 364 [(1,(.p (aF u))),(2,(pI bib)),(3,(pI pl)),(5,(.ptr 0 0)),(11,(.ptr 1 0)),(12,(.p (aF u))),(15,(.ptr 2 0)),(17,(.fn 69 [] [(.rp [(aF (aJ dl (aA dc)))] 0)])),(24,(pI 0)),(29,(.p (aF A5))),(30,(pB Bg)),(31,(.p ov)),(32,(pI fe)),(33,(.own 3)),(34,(pB cn)),(36,(.p (aF Bw))),(231,(.p (.sl ((cL (aJ dl (aA dc))).length) (((cL (aJ dl (aA dc))).map oiE).flatten)))),(232,(pI ((cL (aJ dl (aA dc))).length:Int))),(233,(pI (i:Int))),(248,(.p (.sl ((bM dl Bw (aA dc) (aA sk)).length) ((bM dl Bw (aA dc) (aA sk)).flatten.map aB)))),(249,(pI ((bM dl Bw (aA dc) (aA sk)).length:Int))),(250,(pI (k:Int)))],[some (.box 26 [(pI dl),(.p (fS sk)),(.p (fS dc))]),some (.box 26 [(pI dl),(.p (fS sk)),(.p (fS dc))]),some (.box 61 [(pI dl),(.p (.sl ((aA sk).length) ((aA sk).flatten.map aB))),(.p (.sl ((aA dc).length) ((aA dc).flatten.map aB)))]),some (.row 71 (rs.length+1) (((rs.map reE).flatten)++[(PV.sl ((bM dl Bw (aA dc) (aA sk)).length) ((bM dl Bw (aA dc) (aA sk)).flatten.map aB))]))]⟩
theorem bFq{rs:List (Lqq)}{J0:Bool}{Pe:Nat}{O5:List (Lqq)}(h0:(i:Int)<((cL (aJ dl (aA dc))).length:Int))(h1:(cL (aJ dl (aA dc)))[i]? = some (Bw))(h2:bP (aA dc))(h3:Bw.length≤1000)(h4:uni 2 (aA sk))(h5:(aA sk).length≤100)(h6:(aA sk).Pairwise fun a b=>a.getD 0 0<b.getD 0 0)(h7:∀ s∈(aA sk),-1≤sT s∧sT s≤360000)(h8:[(PV.sl ((bM dl Bw (aA dc) (aA sk)).length) ((bM dl Bw (aA dc) (aA sk)).flatten.map aB))].length=1*1∧rs.length+1≤1000000)(h9:inR ((((rs.length+1):Nat):Int)-1))(A8:0≤((((rs.length+1):Nat):Int)-1)∧((((rs.length+1):Nat):Int)-1)<(((rs.length+1):Nat):Int))(Jy:aD Tp 0 aFx (lA dl sk dc u bib pl A5 Bg ov fe rs i Bw can 0) (.exit 8) (lA dl sk dc u bib pl A5 Bg ov fe rs i Bw J0 Pe))(Bo:gk i)(Pf:O5.length=(rs.length+1))(Pg:(O5.map reE).flatten=(((rs.map reE).flatten)++[(PV.sl ((bM dl Bw (aA dc) (aA sk)).length) ((bM dl Bw (aA dc) (aA sk)).flatten.map aB))]))(Ai:i'=(i+1)):aC Tp 0 aMv (mY dl sk dc u bib pl A5 Bg ov fe rs.length ((rs.map reE).flatten) can i) .normal (mY dl sk dc u bib pl A5 Bg ov fe O5.length ((O5.map reE).flatten) J0 i'):=by
 subst Ai;have k1:=fk 4 (xY (dl:=dl) h2 h3 h4 h5 h6 h7) rfl;rw [Pf,Pg];exact aC.fi (gI ap ge) [bT,.x (aF Bw),k1.o,.x (.sl ((bM dl Bw (aA dc) (aA sk)).length) ((bM dl Bw (aA dc) (aA sk)).flatten.map aB)),Jy.k 1 (gI am [0,1,2,5])] (gc Bo (gc Jy.code (gt ((((rs.map reE).flatten)++[(PV.sl ((bM dl Bw (aA dc) (aA sk)).length) ((bM dl Bw (aA dc) (aA sk)).flatten.map aB))])[(((((rs.length+1):Nat):Int)-1).toNat*1)]? = some (.sl ((bM dl Bw (aA dc) (aA sk)).length) ((bM dl Bw (aA dc) (aA sk)).flatten.map aB))) (bXg (by omega)) (gc A8 (gc h9 (gc h8 (gc k1 (gt ((((cL (aJ dl (aA dc))).map oiE).flatten)[(i*1)]? = some (aF Bw)) (bA (E:=oiE) (i:=i) (f:=0) (k:=1) (fun _=>rfl) h1 rfl) (gc (cN (E:=oiE) (k:=1) (i:=(i:Int)) (fun _=>rfl) (by decide) (Bp _) h1) (g0 h0))))))))))
theorem bFr{rs:List (Lqq)}(h0:((cL (aJ dl (aA dc))).length:Int)≤(i:Int)):aC Tp 0 aMv (mY dl sk dc u bib pl A5 Bg ov fe rs.length ((rs.map reE).flatten) can i) (.exit 6) (mY dl sk dc u bib pl A5 Bg ov fe rs.length ((rs.map reE).flatten) can i):=aC.fi (gI ap ge) [bF] (gc (aK h0) gn)
section
variable(h0:(i:Int)<(A2.length:Int))(h1:A2[i]? = some G3)(h2:(aJ dl (aA dc)).length≤1000)(h3:((aJ dl (aA dc)).contains G3)=true)
include h0 h1 h2 h3
theorem bFs{K6:Int}(h4:(0:Int)<(i:Int))(h5:inR ((i:Int)-1))(h6:A2[((i:Int)-1).toNat]? = some K6)(h7:0≤((i:Int)-1))(h8:K6<G3)(h9:gk i)(Ai:i'=(i+1)):aC Tp 0 aMw (mZ dl sk dc u bib pl A2 i) .normal (mZ dl sk dc u bib pl A2 i'):=by
 subst Ai;have k1:=fk 3 (aAp (aJ dl (aA dc)) G3 h2) rfl;exact aC.fi (gI ay [0,1,2]) ([bT,.x (aB G3),k1.o,bF,bF,bF]++rT 6++[.x (aB K6),bT,bF,bT,bF,bF]) (gc h9 (gc (kZ h8) (gc (aR h3) (gc (bI h4) (gc (aR h3) (gc (bI h4) (gt ((A2.map aB)[(((i:Int)-1).toNat*1)]? = some (aB K6)) (sA (i:=((i:Int)-1).toNat) h6) (gc (bI h4) (gc (sC (g:=aB) h7 h6) (gc (bI h4) (gc h5 (Au (bI h4) (Ak (aR h3) (gc k1 (gc (atm aB h1) (gc (ixn aB h1) (g0 h0)))))))))))))))))
theorem bFt(h4:(i:Int)≤0)(h5:gk i)(Ai:i'=(i+1)):aC Tp 0 aMw (mZ dl sk dc u bib pl A2 i) .normal (mZ dl sk dc u bib pl A2 i'):=by
 subst Ai;have k1:=fk 3 (aAp (aJ dl (aA dc)) G3 h2) rfl;exact aC.fi (gI ay [0,1,2]) ([bT,.x (aB G3),k1.o]++rF 13) (gc h5 (gc (aR h3) (gc (aK h4) (gc (aR h3) (Ja (aK h4) (Ak (aR h3) (gc k1 (gc (atm aB h1) (gc (ixn aB h1) (g0 h0))))))))))
end
theorem bFu(h0:(A2.length:Int)≤(i:Int)):aC Tp 0 aMw (mZ dl sk dc u bib pl A2 i) (.exit 10) (mZ dl sk dc u bib pl A2 i):=aC.fi (gI ay [0,1,2]) [bF] (gc (aK h0) gn)
section
variable(h0:(i:Int)<((bM dl A2 (aA dc) (aA sk)).length:Int))(h1:(bM dl A2 (aA dc) (aA sk))[i]? = some [Ek,Dj,E3])(h2:uni 3 (bM dl A2 (aA dc) (aA sk)))
include h0 h1 h2
theorem bFv(h3:Ek=bib)(h4:Dj=pl)(h5:gk i)(Ai:i'=(i+1)):aC Tp 0 aMx (nA dl sk dc u bib pl A2 i) .normal (nA dl sk dc u bib pl A2 i'):=by
 subst Ai;exact aC.fi (gI bi [0,1]) ([bT,.x (.agg [(aB Ek),(aB Dj),(aB E3)])]++rT 5++[bF]) (gc h5 (gc (bG h4) (B0 (bX h3) (gfl h2 h1 (g0 h0)))))
theorem bFw(h3:Ek≠bib)(h4:gk i)(Ai:i'=(i+1)):aC Tp 0 aMx (nA dl sk dc u bib pl A2 i) .normal (nA dl sk dc u bib pl A2 i'):=by
 subst Ai;exact aC.fi (gI bi [0,1]) ([bT,.x (.agg [(aB Ek),(aB Dj),(aB E3)])]++rF 5) (gc h4 (B0 (aS h3) (gfl h2 h1 (g0 h0))))
end
theorem bFx(h0:((bM dl A2 (aA dc) (aA sk)).length:Int)≤(i:Int)):aC Tp 0 aMx (nA dl sk dc u bib pl A2 i) (.exit 12) (nA dl sk dc u bib pl A2 i):=aC.fi (gI bi [0,1]) [bF] (gc (aK h0) gn)
section
variable(h0:(k:Int)<((bM dl Bw (aA dc) (aA sk)).length:Int))(h1:(bM dl Bw (aA dc) (aA sk))[k]? = some [Ej,Dn,E2])(h2:uni 3 (bM dl Bw (aA dc) (aA sk)))
include h0 h1 h2
theorem bFy{rs:List (Lqq)}(h3:cn=true)(h4:gk k)(Ci:k'=(k+1)):aC Tp 0 aFx (lA dl sk dc u bib pl A5 Bg ov fe rs i Bw cn k) .normal (lA dl sk dc u bib pl A5 Bg ov fe rs i Bw true k'):=by
 subst Ci;exact aC.fi (gN am ge [(34,0)]) ([bT,.x (.agg [(aB Ej),(aB Dn),(aB E2)])]++rT 7) (gc h4 (Ja h3 (gfl h2 h1 (g0 h0))))
theorem bFz{rs:List (Lqq)}{Ve:Bool}(h3:cn=false)(h4:Ej=bib)(h5:gk k)(S0:Ve=(Dn == pl))(Ci:k'=(k+1)):aC Tp 0 aFx (lA dl sk dc u bib pl A5 Bg ov fe rs i Bw cn k) .normal (lA dl sk dc u bib pl A5 Bg ov fe rs i Bw Ve k'):=by
 subst S0 Ci;exact aC.fi (gI am ge) ([bT,.x (.agg [(aB Ej),(aB Dn),(aB E2)])]++rF 5++[bT,bT,bT,bT,bF,bT,bF]) (gc h5 (gc h3 (gc (bX h4) (gc h3 (Au (bX h4) (B0 h3 (gfl h2 h1 (g0 h0))))))))
theorem bGa{rs:List (Lqq)}(h3:cn=false)(h4:Ej≠bib)(h5:gk k)(Ci:k'=(k+1)):aC Tp 0 aFx (lA dl sk dc u bib pl A5 Bg ov fe rs i Bw cn k) .normal (lA dl sk dc u bib pl A5 Bg ov fe rs i Bw false k'):=by
 subst Ci;exact aC.fi (gN am ge [(34,0)]) ([bT,.x (.agg [(aB Ej),(aB Dn),(aB E2)])]++rF 12) (gc h5 (gc h3 (gc (aS h4) (gc h3 (Au (aS h4) (B0 h3 (gfl h2 h1 (g0 h0))))))))
end
theorem bGb{rs:List (Lqq)}(h0:((bM dl Bw (aA dc) (aA sk)).length:Int)≤(k:Int)):aC Tp 0 aFx (lA dl sk dc u bib pl A5 Bg ov fe rs i Bw cn k) (.exit 8) (lA dl sk dc u bib pl A5 Bg ov fe rs i Bw cn k):=aC.fi (gI am ge) [bF] (gc (aK h0) gn)
end
section
theorem aRb{dl:Int}{z:List Int}{D S:Lqq}(hs:S.Pairwise fun a b=>a.getD 0 0<b.getD 0 0){s:List Int}(hm:s∈S){y:List Int}(hy:y∈bM dl z D S)(e:y.getD 0 0=s.getD 0 0):y.getD 1 0=fG (fT dl z D) S s:=by
 obtain ⟨_,q2,q3⟩:=aHp (dl:=dl) (oc:=z) (dc:=D) hs;obtain ⟨s',Cj,e1,e2⟩:=q3 y hy;have hn:(aP S 0).Nodup:=by
  unfold aP;rw [List.Nodup,List.pairwise_map];exact hs.imp fun h=>by omega
 have:s'=s:=aDo hn Cj hm (e1.trans e);subst this;have f:fT dl z D s'=(y.getD 2 0,decide (y.getD 1 0 = -1)):=e2;unfold fG;rw [f]
 by_cases h:y.getD 1 0 = -1
 ·rw [decide_eq_true h];exact h
 ·rw [decide_eq_false h,q2 y hy h,aHq hs]
  rfl
def aIg(bib pl:Int)(r:Lqq):Bool:=r.any fun y=>(y.getD 0 0 == bib) && (y.getD 1 0 == pl)
theorem aRc{dl pl:Int}{z:List Int}{D S:Lqq}(hs:S.Pairwise fun a b=>a.getD 0 0<b.getD 0 0){s:List Int}(hm:s∈S):aIg (s.getD 0 0) pl (bM dl z D S)=true↔fG (fT dl z D) S s=pl:=by
 unfold aIg;rw [List.any_eq_true];constructor
 ·rintro ⟨y,hy,h⟩
  simp only [Ce,beq_iff_eq] at h
  rw [← aRb hs hm hy h.1];exact h.2
 ·intro h
  have hf:=uZ (dl:=dl) (oc:=z) (dc:=D) hs hm;refine ⟨_,rD hf,?_⟩;show ((s.getD 0 0 == s.getD 0 0) && (fG (fT dl z D) S s == pl))=true;rw [h];simp
theorem bBa{α:Type}(p:α→Bool):∀ (l:List α) (c:Bool),l.foldl (fun c x=>c || p x) c=(c || l.any p)
 | [],c=>by simp
 | x::l,c=>by rw [kO,bBa p l,List.any_cons,Bool.or_assoc]
section
variable {dl:Int} {sk dc:Lqq} {u:List Int} {bib pl num:Int}
theorem cDl(hu:u.length≤1000){a0 b1:Lqq}{w:Int}(hw:w≠0):aD Tp 0 (sub (cd Tryz.f12) bp) (pR dl sk dc u bib pl num a0 b1 w 0) (.exit 0) (pR dl sk dc u bib pl num a0 b1 w u.length) :=
 aD.range (P:=Tp) (k:=0) (b:=sub (cd Tryz.f12) bp) (e := .exit 0) (fun i (_:Unit)=>pR dl sk dc u bib pl num a0 b1 w i) (fun _=>pR dl sk dc u bib pl num a0 b1 w u.length) (fun a _=>a) (fun _ _=>True) (by simp) u (a0:=()) trivial
  (fun i x _ hx _=>⟨trivial,by have hlt:=aM hx;exact bEw (by omega) hx hw (aI (by omega)) rfl⟩)
  (fun _ _=>bEx (by omega))
theorem cDm(hu:u.length≤1000){a0 b1:Lqq}{w:Int}(hw:cY dl sk dc≠0):aD Tp 0 (sub (cd Tryz.f12) bn) (pT dl sk dc u bib pl num a0 b1 w 0) (.exit 2) (pT dl sk dc u bib pl num a0 b1 w u.length) :=
 aD.range (P:=Tp) (k:=0) (b:=sub (cd Tryz.f12) bn) (e := .exit 2) (fun i (_:Unit)=>pT dl sk dc u bib pl num a0 b1 w i) (fun _=>pT dl sk dc u bib pl num a0 b1 w u.length) (fun a _=>a) (fun _ _=>True) (by simp) u (a0:=()) trivial
  (fun i x _ hx _=>⟨trivial,by have hlt:=aM hx;exact bEy (by omega) hx hw (aI (by omega)) rfl⟩)
  (fun _ _=>bEz (by omega))
theorem cDn(hu:u.length≤1000):aD Tp 0 (sub (cd Tryz.f12) bp) (jL dl sk dc u bib pl num 0 0) (.exit 0) (jL dl sk dc u bib pl num (if nN u then 0 else 4) u.length):=by
 obtain ⟨w,hw,hL⟩:=aD.ex (P:=Tp) (k:=0) (b:=sub (cd Tryz.f12) bp) (e := .exit 0) (fun i (w:Int)=>jL dl sk dc u bib pl num w i) (fun w=>jL dl sk dc u bib pl num w u.length)
  (fun i w=>w=if (List.range i).all (fun j=>j == 0 || decide (u.getD (j-1) 0<u.getD j 0)) then 0 else 4) (by simp) u.length
  (fun i w hi hw=>by
   have hx:u[i]? = some u[i]:=Ay hi;have hg:u.getD i 0=u[i]:=by rw [B5,hx];rfl
   have hn:inR (((i+1):Nat):Int):=aI (by omega)
   refine ⟨if (List.range (i+1)).all (fun j=>j == 0 || decide (u.getD (j-1) 0<u.getD j 0)) then 0 else 4,rfl,?_⟩
   rw [List.range_succ,List.all_append,List.all_cons,List.all_nil,Bool.and_true];cases ha:(List.range i).all (fun j=>j == 0 || decide (u.getD (j-1) 0<u.getD j 0)) with
   | false =>
    rw [ha] at hw
    have hw:w=4:=hw;subst hw;exact bFd (by omega) hx (by decide) hn rfl
   | true =>
    rw [ha] at hw
    have hw:w=0:=hw;subst hw
    by_cases h0:i=0
    ·subst h0
     exact bFc (by omega) hx rfl (by decide) hn rfl
    ·have ek:(((i:Int)-(1:Int))).toNat=i-1:=by omega
     have q1:u[(((i:Int)-(1:Int))).toNat]? = some (u.getD (i-1) 0):=by
      rw [ek,B5,Ay (by omega)];rfl
     have Ik:inR ((i:Int)-(1:Int)):=by unfold inR;omega
     have hb:(i == 0)=false:=by simpa using h0
     rw [hb,Bool.false_or,gS]
     by_cases hc:u.getD (i-1) 0<u.getD i 0
     ·rw [decide_eq_true hc]
      exact bFb (by omega) hx rfl (by omega) Ik q1 (by omega) (by omega) hn rfl
     ·rw [decide_eq_false hc]
      exact bFa (by omega) hx rfl (by omega) Ik q1 (by omega) (by omega) hn rfl rfl)
  (fun w _=>bFe (by omega)) (acc:=0) (by simp)
 rw [hw] at hL
 exact hL
theorem cDo(hu:u.length≤1000)(hc:cY dl sk dc=0)(ho:(aJ dl (aA dc)).length≤1000){w:Int}:aD Tp 0 (sub (cd Tryz.f12) bn) (mX dl sk dc u bib pl num w 0) (.exit 2) (mX dl sk dc u bib pl num (if u.all (ocB (aJ dl (aA dc))) then w else 1) u.length):=by
 have:=aD.range (P:=Tp) (k:=0) (b:=sub (cd Tryz.f12) bn) (e := .exit 2) (fun i (w:Int)=>mX dl sk dc u bib pl num w i) (fun w=>mX dl sk dc u bib pl num w u.length) (fun w n=>if ocB (aJ dl (aA dc)) n then w else 1) (fun _ _=>True) (by simp) u (a0:=w) trivial
  (fun i x w hx _=>⟨trivial,by
   have hlt:=aM hx;have hn:inR (((i+1):Nat):Int):=aI (by omega)
   cases h:ocB (aJ dl (aA dc)) x with
   | true=>exact bFg (by omega) hx hc ho h hn rfl
   | false=>exact bFf (by omega) hx hc ho h hn rfl rfl⟩)
  (fun _ _=>bFh (by omega))
 have e:∀ (l:List Int) (w:Int),l.foldl (fun w n=>if ocB (aJ dl (aA dc)) n then w else 1) w=if l.all (ocB (aJ dl (aA dc))) then w else 1:=by
  intro l
  induction l with
  | nil=>intro w;rfl
  | cons x l ih =>
   intro w;rw [kO,ih,List.all_cons];cases ocB (aJ dl (aA dc)) x <;> cases l.all (ocB (aJ dl (aA dc))) <;> rfl
 rw [e] at this
 exact this
theorem cDp(us:uni 2 sk)(hl:sk.length≤1000):aD Tp 0 (sub (cd Tryz.f12) ax) (jM dl sk dc u bib pl 1 0) (.exit 4) (jM dl sk dc u bib pl (if bib∈aP sk 0 then 0 else 1) sk.length):=by
 have:=aD.range (P:=Tp) (k:=0) (b:=sub (cd Tryz.f12) ax) (e := .exit 4) (fun i (w:Int)=>jM dl sk dc u bib pl w i) (fun w=>jM dl sk dc u bib pl w sk.length) (fun w s=>if s.getD 0 0=bib then 0 else w) (fun _ _=>True) (by simp) sk (a0:=1) trivial
  (fun i x w hx _=>⟨trivial,by
   have hlt:=aM hx;have hn:inR (((i+1):Nat):Int):=aI (by omega)
   obtain ⟨y0,y1,rfl⟩:=len2 (us x (Bl hx))
   by_cases h:y0=bib
   ·rw [if_pos (show ([y0,y1]:List Int).getD 0 0=bib from h)]
    exact bFn (by omega) hx us h hn rfl rfl
   ·rw [if_neg (show ¬ ([y0,y1]:List Int).getD 0 0=bib from h)]
    exact bFo (by omega) hx us h hn rfl⟩)
  (fun _ _=>bFp (by omega))
 have e:∀ (l:Lqq) (w:Int),l.foldl (fun w s=>if s.getD 0 0=bib then 0 else w) w=if bib∈aP l 0 then 0 else w:=by
  intro l
  induction l with
  | nil=>intro w;simp [aP]
  | cons x l ih =>
   intro w;rw [kO,ih];have ec:aP (x::l) 0=x.getD 0 0::aP l 0:=rfl;rw [ec]
   by_cases h:x.getD 0 0=bib
   ·rw [if_pos h,ite_self,if_pos (h ▸ gA)]
   ·rw [if_neg h]
    by_cases h2:bib∈aP l 0
    ·rw [if_pos h2,if_pos (Ch _ h2)]
    ·rw [if_neg h2,if_neg (by rw [fW];rintro (h3 | h3);exact h h3.symm;exact h2 h3)]
 rw [e] at this
 exact this
theorem cDq{l:List Int}{o:Bool}{ov:PV}{fe:Int}{rs:List (Lqq)}{i:Nat}{c:List Int}{can:Bool}(hl:sk.length≤1000):aD Tp 0 (sub (cd Tryz.f12) ak) (lA dl sk dc u bib pl l o ov fe rs i c can 0) (.exit 8) (lA dl sk dc u bib pl l o ov fe rs i c (can || aIg bib pl (bM dl c (aA dc) (aA sk))) (bM dl c (aA dc) (aA sk)).length):=by
 have hr:(bM dl c (aA dc) (aA sk)).length≤1000:=by rw [uY,dC];exact hl
 have:=aD.range (P:=Tp) (k:=0) (b:=sub (cd Tryz.f12) ak) (e := .exit 8) (fun k (cn:Bool)=>lA dl sk dc u bib pl l o ov fe rs i c cn k) (fun cn=>lA dl sk dc u bib pl l o ov fe rs i c cn (bM dl c (aA dc) (aA sk)).length) (fun cn y=>cn || ((y.getD 0 0 == bib) && (y.getD 1 0 == pl))) (fun _ _=>True) (by simp) (bM dl c (aA dc) (aA sk)) (a0:=can) trivial
  (fun k y cn hx _=>⟨trivial,by
   have hlt:=aM hx;have hn:inR (((k+1):Nat):Int):=aI (by omega)
   obtain ⟨y0,y1,y2,rfl⟩:=Dd (fE y (Bl hx));have hk:(k:Int)<((bM dl c (aA dc) (aA sk)).length:Int):=by omega
   try dsimp only
   cases cn with
   | true=>exact bFy hk hx fE rfl hn rfl
   | false =>
    by_cases h:y0=bib
    ·have e:(false || ((([y0,y1,y2]:List Int).getD 0 0 == bib) && (([y0,y1,y2]:List Int).getD 1 0 == pl)))=(y1 == pl):=by
      show ((y0 == bib) && (y1 == pl))=_;rw [h];simp
     rw [e];exact bFz hk hx fE rfl h hn rfl rfl
    ·have e:(false || ((([y0,y1,y2]:List Int).getD 0 0 == bib) && (([y0,y1,y2]:List Int).getD 1 0 == pl)))=false:=by
      show ((y0 == bib) && (y1 == pl))=_;rw [show (y0 == bib)=false by simpa using h];rfl
     rw [e];exact bGa hk hx fE rfl h hn rfl⟩)
  (fun _ _=>bGb (by omega))
 rw [bBa] at this
 exact this
theorem bRk(hr:bO dl sk dc)(h8:(aJ dl (aA dc)).length≤8){l:List Int}{o:Bool}{ov:PV}{fe:Int} :
  aD Tp 0 (sub (cd Tryz.f12) aq) (mY dl sk dc u bib pl l o ov fe 0 [] false 0) (.exit 6) (mY dl sk dc u bib pl l o ov fe (rsM dl (aA dc) (aA sk)).length (((rsM dl (aA dc) (aA sk)).map reE).flatten) ((rsM dl (aA dc) (aA sk)).any (aIg bib pl)) (cL (aJ dl (aA dc))).length):=by
 obtain ⟨u2,Ri,hrg,hnd⟩:=gQ hr;have C6:(cL (aJ dl (aA dc))).length≤256:=by
  rw [aHv];exact fL (Nat.pow_le_pow_right (by omega) h8) (by decide)
 have hs:=hr.len;have:=aD.range (P:=Tp) (k:=0) (b:=sub (cd Tryz.f12) aq) (e := .exit 6) (fun i (a:List (Lqq) × Bool)=>mY dl sk dc u bib pl l o ov fe a.1.length ((a.1.map reE).flatten) a.2 i) (fun a=>mY dl sk dc u bib pl l o ov fe a.1.length ((a.1.map reE).flatten) a.2 (cL (aJ dl (aA dc))).length) (fun a z=>(a.1++[bM dl z (aA dc) (aA sk)],a.2 || aIg bib pl (bM dl z (aA dc) (aA sk)))) (fun i a=>a.1.length=i) (by simp) (cL (aJ dl (aA dc))) (a0:=([],false)) rfl
  (fun i z a hx hi=>by
   have hlt:=aM hx;have hz:=((iT _ z).1 (Bl hx)).length_le;exact ⟨by simp [hi],bFq (O5:=a.1++[bM dl z (aA dc) (aA sk)]) (by omega) hx (dA hr) (by omega) u2 (by omega) (qP hr) hrg ⟨rfl,by omega⟩ (by show _∧_;omega) ⟨by omega,by omega⟩ (cDq (by omega)) (aI (by omega)) (by simp) (by simp [reE]) rfl⟩)
  (fun a _=>bFr (by omega))
 have e:∀ (l:Lqq) (a:List (Lqq) × Bool),l.foldl (fun a z=>(a.1++[bM dl z (aA dc) (aA sk)],a.2 || aIg bib pl (bM dl z (aA dc) (aA sk)))) a=(a.1++l.map (fun z=>bM dl z (aA dc) (aA sk)),a.2 || (l.map fun z=>bM dl z (aA dc) (aA sk)).any (aIg bib pl)):=by
  intro l
  induction l with
  | nil=>intro a;simp
  | cons z l ih=>intro a;rw [kO,ih];simp [Bool.or_assoc]
 rw [e,List.nil_append,Bool.false_or] at this
 exact this
theorem cDr{o:List Int}(ho:o.length≤1000)(h8:(aJ dl (aA dc)).length≤8)(hE:sX dl (aA dc) o=0):aD Tp 0 (sub (cd Tryz.f12) ao) (mZ dl sk dc u bib pl o 0) (.exit 10) (mZ dl sk dc u bib pl o o.length):=by
 unfold sX at hE
 cases ha:o.all (ocB (aJ dl (aA dc))) with
 | false=>rw [ha] at hE;simp at hE
 | true =>
  rw [ha,if_pos rfl] at hE
  cases hb:nN o with
  | false=>rw [hb] at hE;simp at hE
  | true =>
   exact aD.range (P:=Tp) (k:=0) (b:=sub (cd Tryz.f12) ao) (e := .exit 10) (fun i (_:Unit)=>mZ dl sk dc u bib pl o i) (fun _=>mZ dl sk dc u bib pl o o.length) (fun a _=>a) (fun _ _=>True) (by simp) o (a0:=()) trivial
    (fun i x _ hx _=>⟨trivial,by
     have hlt:=aM hx;have hn:inR (((i+1):Nat):Int):=aI (by omega)
     have hc:(aJ dl (aA dc)).contains x=true:=gB.1 ha x (Bl hx);have hg:o.getD i 0=x:=by rw [B5,hx];rfl
     by_cases h0:i=0
     ·subst h0
      exact bFt (by omega) hx (by omega) hc (by decide) hn rfl
     ·have ek:(((i:Int)-(1:Int))).toNat=i-1:=by omega
      have q1:o[(((i:Int)-(1:Int))).toNat]? = some (o.getD (i-1) 0):=by
       rw [ek,B5,Ay (by omega)];rfl
      have:=gB.1 hb i (iN.2 hlt);simp only [wB,beq_iff_eq,decide_eq_true_eq] at this
      rw [hg] at this
      exact bFs (by omega) hx (by omega) hc (by omega) (by show _∧_;omega) q1 (by omega) (by omega) hn rfl⟩)
    (fun _ _=>bFu (by omega))
theorem cDs{o:List Int}(hl:sk.length≤1000)(h:∀ y∈bM dl o (aA dc) (aA sk),y.getD 0 0=bib→y.getD 1 0=pl):aD Tp 0 (sub (cd Tryz.f12) an) (nA dl sk dc u bib pl o 0) (.exit 12) (nA dl sk dc u bib pl o (bM dl o (aA dc) (aA sk)).length):=by
 have hr:(bM dl o (aA dc) (aA sk)).length≤1000:=by rw [uY,dC];exact hl
 exact aD.range (P:=Tp) (k:=0) (b:=sub (cd Tryz.f12) an) (e := .exit 12) (fun i (_:Unit)=>nA dl sk dc u bib pl o i) (fun _=>nA dl sk dc u bib pl o (bM dl o (aA dc) (aA sk)).length) (fun a _=>a) (fun _ _=>True) (by simp) (bM dl o (aA dc) (aA sk)) (a0:=()) trivial
  (fun i x _ hx _=>⟨trivial,by
   have hlt:=aM hx;have hm:=Bl hx;have hn:inR (((i+1):Nat):Int):=aI (by omega)
   have hh:=h x hm;obtain ⟨y0,y1,y2,rfl⟩:=Dd (fE x hm)
   by_cases e:y0=bib
   ·exact bFv (by omega) hx fE e (hh e) hn rfl
   ·exact bFw (by omega) hx fE e hn rfl⟩)
  (fun _ _=>bFx (by omega))
theorem bBb{D:Lqq}{b:Int}:b∈aP (aA D) 0↔b∈aP D 0:=((dZ D).map _).mem_iff
variable (haw:∀ {base:Nat},FV Tp 26 [] base (.p (blP true)) []) (hr:bO dl sk dc) (us:uni 2 sk) (ud:uni 6 dc) (hc:cY dl sk dc=0) (ul:u.length≤1000) (h5:(aJ dl (aA dc)).length≤5) (l1:sk.length≤5) (l2:dc.length≤1000)
include haw hr us ud hc ul h5 l1 l2
theorem cDt:aC Tp 0 (sub (cd Tryz.f12) [1,1,1,1,1,1,1,1,1,1,1,1,1,1,1,1,1,1]) (aAn dl sk dc u bib pl) .ret kA:=by
 obtain ⟨u2,Ri,hrg,hnd⟩:=gQ hr;have L2:=cDp (dl:=dl) (dc:=dc) (u:=u) (bib:=bib) (pl:=pl) us (by omega)
 rcases aKu (aA sk) bib with ⟨i,s,h1,hs,h3⟩ | ⟨h1,h2⟩
 ·have hb:bib∈aP sk 0:=bBb.1 (B3.2 ⟨s,Bl hs,h3⟩)
  rw [if_pos hb] at L2
  have h8:(aJ dl (aA dc)).length≤8:=by omega
  have hm:=Bl hs;obtain ⟨y0,y1,rfl⟩:=len2 (u2 s hm);have h3:y0=bib:=h3;subst h3;obtain ⟨g1,g2⟩:=cNj hr h8;have hP:=cMy hr h8 hs;have hG:=cMz hr h8 hs;have hP:plR (rsM dl (aA dc) (aA sk)) y0=_:=hP;have hG:gnR (rsM dl (aA dc) (aA sk)) y0=_:=hG;have hlen:(jQ (aG dl (aA sk) (aA dc)) i (hpM dl (aA dc) [y0,y1]).1).length≤1000:=by
   rw [← hP];unfold plR;exact fL (rZ _ _) (by simp)
  have hcan:(rsM dl (aA dc) (aA sk)).any (aIg y0 pl)=true↔∃ z∈cL (aJ dl (aA dc)),fG (fT dl z (aA dc)) (aA sk) [y0,y1]=pl:=by
   unfold rsM;rw [List.any_map,List.any_eq_true];constructor
   ·rintro ⟨z,hz,h⟩
    exact ⟨z,hz,(aRc (s:=[y0,y1]) (qP hr) hm).1 h⟩
   ·rintro ⟨z,hz,h⟩
    exact ⟨z,hz,(aRc (s:=[y0,y1]) (qP hr) hm).2 h⟩
  cases hf:zV (aG dl (aA sk) (aA dc)) i pl (hpM dl (aA dc) [y0,y1]).1 with
  | none =>
   obtain ⟨n1,n2⟩:=aTh hr hs hf;have hn:(rsM dl (aA dc) (aA sk)).any (aIg y0 pl)=false:=by
    rw [Bool.eq_false_iff];intro h;obtain ⟨z,hz,e⟩:=hcan.1 h;have hp:=aHt hr ((iT _ z).1 hz) hs
    split at hp
    ·have e':fG (fT dl z (aA dc)) (aA sk) [y0,y1] = -1:=hp.2
     exact n1 ⟨by omega,hp.1⟩
    ·have hp:fG (fT dl z (aA dc)) (aA sk) [y0,y1]∈jQ (aG dl (aA sk) (aA dc)) i (hpM dl (aA dc) [y0,y1]).1:=hp
     rw [e] at hp
     exact n2 hp
   exact bFm hc L2 hr h1 hs h8 rfl rfl hf rfl (bRk hr h8) g1 g2 hP hG hlen (by simp) (by simp) hn ⟨us,by omega⟩ ⟨ud,l2⟩ us ud (by simp) haw
  | some o =>
   obtain ⟨_,q2,q3,q4⟩:=aTi hr h8 hs hf;have q4:fG (fT dl o (aA dc)) (aA sk) [y0,y1]=pl:=q4;have hn:(rsM dl (aA dc) (aA sk)).any (aIg y0 pl)=true:=hcan.2 ⟨o,(iT _ o).2 (aTf (u:=[]) (dA hr) q2),q4⟩;exact aVl hc L2 hr h1 hs h8 rfl rfl hf rfl (bRk hr h8) g1 g2 hP hG hlen (by simp) (by simp) hn (cDr q3 h8 q2) (dA hr) q3 u2 (by omega) (qP hr) hrg (cDs (by omega) fun y hy e=>(aRb (qP hr) hm hy e).trans q4) ⟨us,by omega⟩ ⟨ud,l2⟩ us ud (by simp) ul (by simp) haw
 ·rw [if_neg (fun h=>h2 (bBb.2 h))] at L2
  exact aVm hc L2 hr h1 (by decide) rfl ⟨us,by omega⟩ ⟨ud,l2⟩ us ud (by simp) haw
theorem cDu:aC Tp 0 (sub (cd Tryz.f12) [1,1,1,1,1,1,1,1,1,1,1,1,1,1]) (aFy dl sk dc u bib pl num) .ret kA:=by
 obtain ⟨u2,Ri,hrg,hnd⟩:=gQ hr;have T:=cDt (bib:=bib) (pl:=pl) haw hr us ud hc ul h5 l1 l2;cases hn:(aJ dl (aA dc)).contains num with
 | false=>exact bFk hc (by omega) hn hr (by unfold uW;rw [if_pos hn]) rfl T
 | true=>exact bFl hc (by omega) hn hr (bXi hr (by omega) hn) hc.symm (dA hr) u2 (by omega) (qP hr) hrg (by omega) rfl (by simp) T
theorem cDv{w:Int}(hw:w=sX dl (aA dc) u):aC Tp 0 (sub (cd Tryz.f12) [1,1,1,1,1,1,1,1,1,1,1,1]) (aMy dl sk dc u bib pl num w) .ret kA:=by
 obtain ⟨u2,Ri,hrg,hnd⟩:=gQ hr;have T:=cDu (bib:=bib) (pl:=pl) (num:=num) haw hr us ud hc ul h5 l1 l2
 by_cases h0:sX dl (aA dc) u=0
 ·exact bFi hc hr ul (by omega) h0 (by rw [hw,h0]) fE (by rw [uY];omega) (dA hr) u2 (by omega) (qP hr) hrg T
 ·exact bFj hc hr ul rfl h0 hw.symm T
end
theorem cDw(haw:∀ {base:Nat},FV Tp 26 [] base (.p (blP true)) [])(dl:Int)(sk dc:Lqq)(u:List Int)(bib pl num:Int)(us:uni 2 sk)(ud:uni 6 dc)(hi:∀ n∈u,inR n)(hb:inR bib)(hp:inR pl)(hm:inR num){base:Nat}:FV Tp 12 [.p (.agg (bC dl sk dc)),.p (aF u),.p (aB bib),.p (aB pl),.p (aB num)] base (.p (blP true)) []:=by
 cases hg:wD sk dc 5 14 with
 | true=>exact cEa hg haw
 | false =>
 have hs:=of_decide_eq_false hg
 by_cases hu:(12:Int)<(u.length:Int)
 ·exact cEb hg hu haw
 have ul:u.length≤1000:=by omega
 have l2:dc.length≤1000:=by omega
 by_cases h1:cY dl sk dc=0
 ·have hr:=(bBi us ud).1 h1
  have hd:=dA hr;have hl:=hr.len
  by_cases h5:(5:Int)<((aJ dl (aA dc)).length:Int)
  ·exact cEd hg (by omega) us (by omega) ud l2 ul h1 hr hd h5 haw
  ·refine cEe hg (by omega) us (by omega) ud l2 ul h1 hr hd (by omega) (Sw:=if nN u then 0 else 4) (E0:=u.length) ?_ (cDo ul h1 (by omega)) (cDv haw hr us ud h1 ul (by omega) (by omega) l2 rfl)
   rw [h1];exact cDn ul
 ·obtain ⟨a,b,hR⟩:=cCg (sk:=sk) (dc:=dc) dl us (by omega) ud l2
  exact cEc hg (by omega) us (by omega) ud l2 ul h1 hR (cDl ul h1) (cDm ul h1) rfl rfl rfl ⟨us,by omega⟩ ⟨ud,l2⟩ (by simp) haw
end
end KV
end Go.Proofs
