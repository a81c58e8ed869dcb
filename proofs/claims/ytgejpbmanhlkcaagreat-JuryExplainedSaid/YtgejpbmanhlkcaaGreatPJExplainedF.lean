/- Parts of the proof of JExplained: laws of walks, contracts of functions, plain models. No condition. -/
import Derived.Test.YtgejpbmanhlkcaaGreatPJExplainedE
set_option linter.unusedVariables false
set_option linter.unusedSimpArgs false
set_option maxRecDepth 100000
namespace Go.Proofs
namespace KV
section
theorem bIj:∀ {a b:List Int},a.Pairwise (· < ·)→b.Pairwise (· < ·)→(∀ n,n∈a↔n∈b)→a=b
 | [],[],_,_,_=>rfl
 | [],y::b,_,_,h=>by have:=(h y).2 (iK ..);cases this
 | x::a,[],_,_,h=>by have:=(h x).1 (iK ..);cases this
 | x::a,y::b,ha,hb,h=>by
  obtain ⟨a1,a2⟩:=bJh.1 ha;obtain ⟨b1,b2⟩:=bJh.1 hb;have hxy:x=y:=by
   rcases gP.1 ((h x).1 (iK ..)) with q | q
   ·exact q
   ·rcases gP.1 ((h y).2 (iK ..)) with r | r
    ·exact r.symm
    ·have:=a1 y r;have:=b1 x q;omega
  subst hxy
  congr 1
  refine bIj a2 b2 fun n=>⟨fun hn => ?_,fun hn => ?_⟩
  ·rcases gP.1 ((h n).1 (kQ7 _ hn)) with q | q
   ·have:=a1 n hn;omega
   ·exact q
  ·rcases gP.1 ((h n).2 (kQ7 _ hn)) with q | q
   ·have:=b1 n hn;omega
   ·exact q
theorem bH.sub{D:Lqq}(h:bH D)(p:List Int→Bool):bH (D.filter p) :=
 ⟨fun y hy=>h.ud y (pK.1 hy).1,gC (sV _ _) h.len,fun y hy=>h.rng y (pK.1 hy).1,h.up.sublist List.filter_sublist,fun y hy=>h.ord y (pK.1 hy).1⟩
section
variable {dl:Int} {D:Lqq} {bib:Int}
def wQ(D:Lqq):Nat→List Int→Int
 | 0,_=>0
 | k+1,x=>if dK x≤4 then dN x else match ofN D (dAb x) with
  | some y=>wQ D k y
  | none=>0
def zE(D:Lqq)(x:List Int):Int:=wQ D (10000+1) x
theorem aDo(hd:bH D):∀ (k:Nat) (x:List Int),x∈D→dN x<(k:Int)→wQ D k x=wQ D (k+1) x
 | 0,x,hx,hk=>by have:=cD hd hx;omega
 | k+1,x,hx,hk=>by
  unfold wQ
  by_cases h4:dK x≤4
  ·rw [if_pos h4,if_pos h4]
  ·rw [if_neg h4,if_neg h4]
   cases h:ofN D (dAb x) with
   | none=>rfl
   | some y =>
    obtain ⟨h1,h2⟩:=jY h;have ho:=hd.ord _ hx;unfold orB at ho
    rw [if_neg (show ¬ x.getD 1 0≤4 from h4)] at ho
    have ho2:=cM.1 ho;have h3:dAb x≤dN x-1:=ho2.2;exact aDo hd k y h1 (by omega)
theorem uT(hd:bH D){s y:List Int}(hs:s∈D)(hy:y∈D)(e:dAb s=dN y):zE D s=zE D y:=by
 have hk:¬ dK s≤4:=fun h4=>by
  have ho:=hd.ord _ hs;unfold orB at ho
  rw [if_pos (show s.getD 1 0≤4 from h4)] at ho
  have h0:dAb s=0:=by simpa using ho
  have:=cD hd hy;omega
 unfold zE;have e1:wQ D (10000+1) s=wQ D 10000 y:=by
  conv=>lhs;unfold wQ
  rw [if_neg hk,e,sS hd hy]
 rw [e1];exact aDo hd 10000 y hy (by have:=cD hd hy;omega)
theorem aDp{y:List Int}(h:dK y≤4):zE D y=dN y:=by
 unfold zE wQ;rw [if_pos h]
theorem aDq(hd:bH D):∀ (k:Nat) (x:List Int),x∈D→10000-dN x≤(k:Int)→∀ n∈chN dl D k x,∃ z∈D,dN z=n∧dN x<dN z∧dK z=6∧bV dl [] D z=true∧zE D z=zE D x∧fA D z=fA D x∧(∃ w∈D,iU dl [] D w=some z)∧∀ y,iU dl [] D z=some y→dN y∈chN dl D k x
 | 0,x,hx,hk=>by have:=cD hd hx;omega
 | k+1,x,hx,hk=>fun n hn=>by
  unfold chN at hn
  cases hc:iU dl [] D x with
  | none=>rw [hc] at hn;cases hn
  | some y =>
   rw [hc] at hn
   obtain ⟨h1,h2,h3,h4,h5⟩:=pQ hd hx hc;have ec:chN dl D (k+1) x=dN y::chN dl D k y:=by
    conv=>lhs;unfold chN
    rw [hc]
   rcases gP.1 hn with rfl | hn
   ·refine ⟨y,h1,rfl,h2,h3,h5,uT hd h1 hx h4,uU hd h1 hx h4,⟨x,hx,hc⟩,fun y2 hy2 => ?_⟩
    rw [ec];refine kQ7 _ ?_;cases k with
    | zero=>have:=cD hd h1;omega
    | succ k =>
     unfold chN;rw [hy2];exact iK ..
   ·obtain ⟨z,q1,q2,q3,q4,q5,q6,q7,q8,q9⟩:=aDq hd k y h1 (by omega) n hn
    refine ⟨z,q1,q2,by omega,q4,q5,q6.trans (uT hd h1 hx h4),q7.trans (uU hd h1 hx h4),q8,fun y2 hy2 => ?_⟩
    rw [ec];exact kQ7 _ (q9 y2 hy2)
theorem bIk(hd:bH D):∀ (k:Nat) (x:List Int),x∈D→(chN dl D k x).Pairwise (· < ·)∧∀ n∈chN dl D k x,dN x<n
 | 0,x,hx=>⟨List.Pairwise.nil,fun n hn=>by cases hn⟩
 | k+1,x,hx=>by
  unfold chN;cases hc:iU dl [] D x with
  | none=>exact ⟨List.Pairwise.nil,fun n hn=>by cases hn⟩
  | some y =>
   obtain ⟨h1,h2,_⟩:=pQ hd hx hc;obtain ⟨q1,q2⟩:=bIk hd k y h1;refine ⟨bJh.2 ⟨q2,q1⟩,fun n hn => ?_⟩
   rcases gP.1 hn with rfl | hn
   ·exact h2
   ·have:=q2 n hn;omega
theorem lV{x:List Int}:mK dl [] D bib x=true↔dK x≤4∧dB x=bib∧bV dl [] D x=true∧(dK x=4→zL dl [] D x=true):=by
 unfold mK;rw [kQ6,kQ6,kQ6,aEi];simp only [decide_eq_true_eq,beq_iff_eq,Bool.not_eq_true',beq_eq_false_iff_ne,ne_eq];constructor
 ·rintro ⟨h1,h2,h3,h4⟩
  exact ⟨h1,h2,h3,fun e=>h4.resolve_left fun q=>q e⟩
 ·rintro ⟨h1,h2,h3,h4⟩
  refine ⟨h1,h2,h3,?_⟩
  by_cases e:dK x=4
  ·exact .inr (h4 e)
  ·exact .inl e
theorem aSk(hd:bH D){x:List Int}(hx:x∈D)(hu:zL dl [] D x=true):∃ z,pW dl [] D x=some z∧z∈D∧dN x<dN z∧dAb z=dN x∧dK z=8∧bV dl [] D z=true:=by
 rw [aQh hd hx] at hu
 cases hr:pW dl [] D x with
 | none=>rw [hr] at hu;cases hu
 | some z =>
  rw [hr] at hu
  have hr2:=hr;rw [rQ hd hx] at hr2
  have h1:=qJ hr2;have h2:=aEh hr2;rw [kQ6] at h2
  obtain ⟨a1,a2⟩:=mL hd hx h1;exact ⟨z,rfl,a1,a2,(dC h1).2,by simpa using hu,h2.2⟩
theorem sU(hd:bH D){x:List Int}(hx:x∈D)(hh:mK dl [] D bib x=true):∀ n∈oJ dl D x,∃ z∈D,dN z=n∧bV dl [] D z=true∧zE D z=dN x∧fA D z=bib∧(z=x∨dK z=6∨dK z=8)∧(dK z=6→∃ w∈D,iU dl [] D w=some z)∧(dK z≠8→∀ y,iU dl [] D z=some y→dN y∈oJ dl D x):=by
 obtain ⟨h1,h2,h3,h4⟩:=lV.1 hh;have hrg:=cD hd hx;intro n hn;have hch:∀ m∈chN dl D 10000 x,m∈oJ dl D x:=fun m hm=>by
  unfold oJ;exact kQ7 _ (aBv _ hm)
 unfold oJ at hn
 rcases gP.1 hn with rfl | hn
 ·refine ⟨x,hx,rfl,h3,aDp h1,(aDt h1).trans h2,.inl rfl,fun e=>by omega,fun _ y hy=>hch _ ?_⟩
  show dN y∈chN dl D (9999+1) x;unfold chN;rw [hy];exact iK ..
 ·rcases kI.1 hn with hn | hn
  ·by_cases e4:dK x=4
   ·rw [if_pos e4] at hn
    obtain ⟨z,q1,q2,q3,q4,q5,q6⟩:=aSk hd hx (h4 e4);rw [q1] at hn
    refine ⟨z,q2,(List.mem_singleton.1 hn).symm,q6,(uT hd q2 hx q4).trans (aDp h1),((uU hd q2 hx q4).trans (aDt h1)).trans h2,.inr (.inr q5),fun e=>by omega,fun e=>absurd q5 e⟩
   ·rw [if_neg e4] at hn;cases hn
  ·obtain ⟨z,q1,q2,q3,q4,q5,q6,q7,q8,q9⟩:=aDq hd 10000 x hx (by omega) n hn
   exact ⟨z,q1,q2,q5,q6.trans (aDp h1),(q7.trans (aDt h1)).trans h2,.inr (.inl q4),fun _=>q8,fun _ y hy=>hch _ (q9 y hy)⟩
theorem aSl(hd:bH D){x:List Int}(hx:x∈D)(hh:mK dl [] D bib x=true):(oJ dl D x).Nodup:=by
 obtain ⟨h1,h2,h3,h4⟩:=lV.1 hh;have hrg:=cD hd hx;obtain ⟨q1,q2⟩:=bIk (dl:=dl) hd 10000 x hx;have hn:(chN dl D 10000 x).Nodup:=q1.imp fun {a b} q e=>by omega
 unfold oJ
 by_cases e4:dK x=4
 ·rw [if_pos e4]
  obtain ⟨z,r1,r2,r3,r4,r5,r6⟩:=aSk hd hx (h4 e4);rw [r1];show (dN x::(dN z::chN dl D 10000 x)).Nodup;refine List.nodup_cons.2 ⟨fun hm => ?_,List.nodup_cons.2 ⟨fun hm => ?_,hn⟩⟩
  ·rcases gP.1 hm with e | hm
   ·omega
   ·have:=q2 _ hm;omega
  ·obtain ⟨w,s1,s2,_,s4,_⟩:=aDq hd 10000 x hx (by omega) _ hm
   have:=lR hd s1 r2 s2;subst this;omega
 ·rw [if_neg e4]
  exact List.nodup_cons.2 ⟨fun hm=>by have:=q2 _ hm;omega,hn⟩
theorem aDr(dl:Int)(D:Lqq)(bib:Int):∀ (l:Lqq) (o:List Int),l.foldl (aPb dl D bib) o=o++(l.filter (mK dl [] D bib)).flatMap (oJ dl D)
 | [],o=>by simp
 | x::l,o=>by
  rw [vV,aDr dl D bib l];unfold aPb;cases hh:mK dl [] D bib x with
  | true=>rw [if_pos rfl,List.filter_cons_of_pos hh,List.flatMap_cons,List.append_assoc]
  | false=>rw [if_neg Bool.false_ne_true,List.filter_cons_of_neg (by rw [hh];exact Bool.false_ne_true)]
theorem sC{n:Int}:n∈cV dl D bib↔∃ x∈D,mK dl [] D bib x=true∧n∈oJ dl D x:=by
 unfold cV bEr;rw [(List.mergeSort_perm _ _).mem_iff,aDr,List.nil_append,List.mem_flatMap];constructor
 ·rintro ⟨x,hx,hn⟩
  obtain ⟨a,b⟩:=pK.1 hx;exact ⟨x,a,b,hn⟩
 ·rintro ⟨x,a,b,hn⟩
  exact ⟨x,pK.2 ⟨a,b⟩,hn⟩
theorem aSm(hd:bH D):(bEr dl D bib).Nodup:=by
 unfold bEr;rw [aDr,List.nil_append];unfold List.Nodup;rw [List.pairwise_flatMap];refine ⟨fun x hx => ?_,(hd.up.sublist List.filter_sublist).imp_of_mem fun {a b} ha hb q n hn m hm e => ?_⟩
 ·obtain ⟨h1,h2⟩:=pK.1 hx
  exact aSl hd h1 h2
 ·obtain ⟨a1,a2⟩:=pK.1 ha
  obtain ⟨b1,b2⟩:=pK.1 hb;obtain ⟨z,z1,z2,_,z4,_⟩:=sU hd a1 a2 n hn;obtain ⟨w,w1,w2,_,w4,_⟩:=sU hd b1 b2 m hm;have:=lR hd z1 w1 (by omega)
  subst this;omega
theorem bOz(hd:bH D):(cV dl D bib).Pairwise (· < ·):=bPa (aSm hd)
theorem aNd(hd:bH D){n:Int}(hn:n∈cV dl D bib):∃ x∈D,dN x=n:=by
 obtain ⟨x,hx,hh,hn⟩:=sC.1 hn;obtain ⟨z,h1,h2,_⟩:=sU hd hx hh n hn;exact ⟨z,h1,h2⟩
theorem fJ{q:List Int}{x:List Int}:x∈bG D q↔x∈D∧dN x∈q:=by
 unfold bG;rw [pK,Bool.not_not,List.contains_iff_mem]
theorem aUx(hd:bH D):cV dl D bib=(bG D (cV dl D bib)).map dN:=by
 refine bIj (bOz hd) ?_ fun n=>⟨fun hn => ?_,fun hn => ?_⟩
 ·rw [List.pairwise_map]
  exact hd.up.sublist List.filter_sublist
 ·obtain ⟨x,hx,e⟩:=aNd hd hn
  exact eW.2 ⟨x,fJ.2 ⟨hx,by rw [e];exact hn⟩,e⟩
 ·obtain ⟨x,hx,rfl⟩:=eW.1 hn
  exact (fJ.1 hx).2
theorem bIl{x:List Int}(hx:x∈D)(hh:mK dl [] D bib x=true):dN x∈cV dl D bib:=sC.2 ⟨x,hx,hh,by unfold oJ;exact iK ..⟩
theorem kT(hd:bH D){x:List Int}(hx:x∈bG D (cV dl D bib)):bV dl [] D x=true∧fA D x=bib∧(mK dl [] D bib x=true∨dK x=6∨dK x=8)∧(dK x=6→∃ w∈D,iU dl [] D w=some x)∧(dK x≠8→∀ y,iU dl [] D x=some y→y∈bG D (cV dl D bib)):=by
 obtain ⟨h1,h2⟩:=fJ.1 hx;obtain ⟨r,hr,hh,hn⟩:=sC.1 h2;obtain ⟨z,q1,q2,q3,_,q5,q6,q7,q8⟩:=sU hd hr hh _ hn;have:=lR hd q1 h1 q2;subst this;refine ⟨q3,q5,q6.imp_left fun e=>by rw [e];exact hh,q7,fun e y hy => ?_⟩
 obtain ⟨y1,_⟩:=pQ hd q1 hy;exact fJ.2 ⟨y1,sC.2 ⟨r,hr,hh,q8 e y hy⟩⟩
theorem aGy(hd:bH D){x:List Int}(hx:x∈bG D (cV dl D bib)):dK x≠5∧dK x≠7∧dK x≠9:=by
 rcases (kT hd hx).2.2.1 with q | q | q
 ·have:=(lV.1 q).1
  omega
 ·omega
 ·omega
theorem bIm(hd:bH D){x:List Int}(hx:x∈bG D (cV dl D bib)):bV dl [] (bG D (cV dl D bib)) x=true:=by
 have hE:bH (bG D (cV dl D bib)):=hd.sub _;have h1:=(kT hd hx).1;rw [aQg hd (fJ.1 hx).1,kQ6] at h1
 rw [aQg hE hx,kQ6];refine ⟨h1.1,?_⟩;rw [Bool.not_eq_true',List.any_eq_false];intro y hy;obtain ⟨k5,k7,_⟩:=aGy hd (dC hy).1;unfold tK;rw [show (dK y == 5)=false by simpa using k5,show (dK y == 7)=false by simpa using k7]
 simp
theorem bYe(hd:bH D){x:List Int}(hx:x∈bG D (cV dl D bib))(h8:dK x≠8):iU dl [] (bG D (cV dl D bib)) x=iU dl [] D x:=by
 have hE:bH (bG D (cV dl D bib)):=hd.sub _;have hx1:=(fJ.1 hx).1;have key:∀ y∈bX (bG D (cV dl D bib)) (dN x),dK y=6→iU dl [] D x=some y:=fun y hy h6=>by
  obtain ⟨y1,y2⟩:=dC hy;obtain ⟨w,hw,e⟩:=(kT hd y1).2.2.2.1 h6;have hab:=(pQ hd hw e).2.2.2.1;have:=lR hd hw hx1 (by omega)
  rw [← this];exact e
 rw [rR hE hx];cases hf:(bX (bG D (cV dl D bib)) (dN x)).find? fun y=>dK y == 6 && bV dl [] (bG D (cV dl D bib)) y with
 | some y =>
  have h2:=aEh hf;rw [kQ6] at h2
  exact (key y (qJ hf) (by simpa using h2.1)).symm
 | none =>
  cases hc:iU dl [] D x with
  | none=>rfl
  | some y =>
   exfalso
   have hyE:=(kT hd hx).2.2.2.2 h8 y hc;obtain ⟨y1,y2,y3,y4,y5⟩:=pQ hd hx1 hc;have:=aBx.1 hf y (by
    unfold bX;exact pK.2 ⟨zJ.2 hyE,by simpa using y4⟩)
   rw [bIm hd hyE,show (dK y == 6)=true by simpa using y3] at this
   exact this rfl
theorem bIn(hd:bH D):∀ (n:Nat) (x:List Int),x∈bG D (cV dl D bib)→dK x≠8→10000-dN x≤(n:Int)→lK dl [] (bG D (cV dl D bib)) x=lK dl [] D x
 | 0,x,hx,_,h=>by have:=cD hd (fJ.1 hx).1;omega
 | n+1,x,hx,h8,h=>by
  have hE:bH (bG D (cV dl D bib)):=hd.sub _;have hx1:=(fJ.1 hx).1;rw [zX hE hx,zX hd hx1,bYe hd hx h8];cases hc:iU dl [] D x with
  | none=>rfl
  | some y =>
   obtain ⟨y1,y2,y3,_⟩:=pQ hd hx1 hc;exact bIn hd n y ((kT hd hx).2.2.2.2 h8 y hc) (by omega) (by omega)
theorem bYf(hd:bH D){x:List Int}(hx:x∈bG D (cV dl D bib))(hh:mK dl [] D bib x=true)(h4:dK x=4):zL dl [] (bG D (cV dl D bib)) x=true:=by
 have hE:bH (bG D (cV dl D bib)):=hd.sub _;have hx1:=(fJ.1 hx).1;obtain ⟨z,r1,r2,r3,r4,r5,r6⟩:=aSk hd hx1 ((lV.1 hh).2.2.2 h4);have hz:z∈bG D (cV dl D bib):=fJ.2 ⟨r2,sC.2 ⟨x,hx1,hh,by
  unfold oJ;rw [if_pos h4,r1];exact kQ7 _ (oI _ (List.mem_singleton.2 rfl))⟩⟩
 rw [aQh hE hx];cases hr:pW dl [] (bG D (cV dl D bib)) x with
 | none =>
  exfalso
  rw [rQ hE hx] at hr
  have:=aBx.1 hr z (by
   unfold bX;exact pK.2 ⟨zJ.2 hz,by simpa using r4⟩)
  rw [bIm hd hz] at this
  unfold cR at this
  rw [r5] at this
  exact this rfl
 | some y =>
  rw [rQ hE hx] at hr
  have h1:=qJ hr;have h2:=aEh hr;rw [kQ6] at h2
  obtain ⟨_,_,k9⟩:=aGy hd (dC h1).1;have h3:=h2.1;unfold cR at h3
  rw [show (dK y == 9)=false by simpa using k9,Bool.or_false] at h3
  exact h3
theorem bYg(hd:bH D){x:List Int}(hx:x∈bG D (cV dl D bib)):mK dl [] (bG D (cV dl D bib)) bib x=mK dl [] D bib x:=by
 cases hh:mK dl [] D bib x with
 | true =>
  obtain ⟨h1,h2,h3,h4⟩:=lV.1 hh;exact lV.2 ⟨h1,h2,bIm hd hx,fun e=>bYf hd hx hh e⟩
 | false =>
  rw [← Bool.not_eq_true];intro h;have h1:=(lV.1 h).1
  rcases (kT hd hx).2.2.1 with q | q | q
  ·rw [hh] at q;cases q
  ·omega
  ·omega
theorem bIo(hd:bH D)(a:Bool × Int):(bG D (cV dl D bib)).foldl (rN dl [] D bib) a=D.foldl (rN dl [] D bib) a:=by
 unfold bG;refine aDu _ D a fun x hx hr b => ?_
 have hn:dN x∉cV dl D bib:=fun q=>by
  rw [List.contains_iff_mem.2 (show x.getD 0 0∈cV dl D bib from q)] at hr
  cases hr
 have:mK dl [] D bib x=false:=by
  rw [← Bool.not_eq_true];exact fun h=>hn (bIl hx h)
 unfold rN;rw [this,if_neg Bool.false_ne_true]
theorem bYh(hd:bH D)(t:Int):eR dl [] (bG D (cV dl D bib)) bib t=eR dl [] D bib t:=by
 have e:wB dl [] (bG D (cV dl D bib)) bib t=wB dl [] D bib t:=by
  unfold wB;rw [← bIo hd];refine wR _ _ _ _ fun x hx a => ?_
  unfold rN;rw [bYg hd hx];cases hh:mK dl [] D bib x with
  | false=>rfl
  | true=>rw [if_pos rfl,if_pos rfl,bIn hd 10000 x hx (by have:=(lV.1 hh).1;omega) (by have:=cD hd (fJ.1 hx).1;omega)]
 unfold eR;rw [e]
theorem bIp(hd:bH D)(t:Int):qC dl D (cV dl D bib) bib t=true:=by
 unfold qC;rw [bYh hd t,decide_eq_true rfl,iE];exact beq_self_eq_true _
theorem bIq{t:Int}:qC dl D [] bib t=(decide ((if t = -1 then 0 else max 0 t)=(eR dl [] D bib t).1) && ((t == -1) == (eR dl [] D bib t).2)):=by
 have e:bG D []=[]:=by
  unfold bG;rw [List.filter_eq_nil_iff];intro x _;simp
 unfold qC;rw [e];unfold eR wB;rw [List.foldl_nil]
 by_cases h:t = -1
 ·subst h;rfl
 ·rw [if_neg h,show (t == -1)=false by simpa using h]
  rfl
end
end
section
section
variable {sk0 dc1:Lqq}
theorem bJm(hr:bK 30 sk0 dc1){x:List Int}(hx:x∈aA dc1):∃ j:Nat,aZ (fun y=>y.getD 0 0 == dN x) dc1=(j:Int)∧dc1[j]? = some x:=by
 have hx1:=(dS dc1).mem_iff.1 hx;have hd:=dL hr;cases hf:dc1.findIdx? (fun y=>y.getD 0 0 == dN x) with
 | none =>
  have:=List.findIdx?_eq_none_iff.1 hf x hx1;simp at this
 | some j =>
  obtain ⟨hj,h1,_⟩:=List.findIdx?_eq_some_iff_getElem.1 hf;refine ⟨j,by unfold aZ;rw [hf],?_⟩
  have e:dN dc1[j]=dN x:=by simpa using h1
  have:=lR hd ((dS dc1).mem_iff.2 (gO hj)) hx e;rw [kQ0 hj,this]
theorem bEo(q:List Int→Bool)(D:Lqq):(cB q D).length≤D.length:=by
 unfold cB;rw [eV];exact sV ..
theorem aWv{x:List Int}(hx:x∈aA dc1)(hc:bV 30 [] (aA dc1) x=true):(cB (bV 30 [] (aA dc1)) (aA dc1)).contains (dN x)=true:=by
 rw [List.contains_iff_mem];unfold cB;exact eW.2 ⟨x,pK.2 ⟨hx,hc⟩,rfl⟩
theorem bEp(hr:bK 30 sk0 dc1){y4 y5 T:Int}{O:Bool}(hy4:1≤y4)(hy5 : -1≤y5∧y5≤360000){c:List Int}(hc:c=cV 30 (aA dc1) y4) :
  aI Tp 0 (sub (cd Tryz.f15) [1,1,1,1,1,1,1,1,1,1,0,1,0,0]) (dD sk0 dc1 y4 y5 c T O 0 y5 (y5 == (-1:Int))) (.exit 0) (dD sk0 dc1 y4 y5 c T O c.length (wB 30 [] (aA dc1) y4 y5).2 (wB 30 [] (aA dc1) y4 y5).1):=by
 have hd:=dL hr;have hce:c=(bG (aA dc1) c).map dN:=by
  have:=aUx (dl:=30) (bib:=y4) hd;rw [← hc] at this
  exact this
 have hcl:c.length=(bG (aA dc1) c).length:=by
  have:=congrArg List.length hce
  rwa [eV] at this
 have hEl:(bG (aA dc1) c).length≤40:=by
  refine gC (sV _ _) ?_;rw [eT];exact hr.len2
 have hdl:dc1.length≤1000:=by have:=hr.len2;omega
 have hwl:(cB (bV 30 [] (aA dc1)) (aA dc1)).length≤1000:=by
  have:=bEo (bV 30 [] (aA dc1)) (aA dc1);rw [eT] at this
  omega
 obtain ⟨⟨go,sm⟩,⟨hI,_⟩,hL⟩:=aI.ex (P:=Tp) (k:=0) (b:=sub (cd Tryz.f15) [1,1,1,1,1,1,1,1,1,1,0,1,0,0]) (e := .exit 0)
  (fun i (a:Bool × Int)=>dD sk0 dc1 y4 y5 c T O i a.2 a.1) (fun a=>dD sk0 dc1 y4 y5 c T O c.length a.2 a.1)
  (fun i a=>a=((bG (aA dc1) c).take i).foldl (rN 30 [] (aA dc1) y4) (y5 == (-1:Int),y5) ∧ -1-36000*(i:Int)≤a.2∧a.2≤360000+43200000*(i:Int)) (by simp) c.length
  (fun i a hi hI=>by
   obtain ⟨go,sm⟩:=a;obtain ⟨h1,h2,h3⟩:=hI;dsimp only at h1 h2 h3
   have hiE:i<(bG (aA dc1) c).length:=by omega
   have hmE:=gO hiE;obtain ⟨n,k,mi,bb,mu,ab,hy⟩:=len6 (hd.ud _ (fJ.1 hmE).1);have hxE:(bG (aA dc1) c)[i]? = some [n,k,mi,bb,mu,ab]:=by rw [kQ0 hiE,hy]
   rw [hy] at hmE
   have hxD:=(fJ.1 hmE).1;have hx:c[i]? = some n:=by rw [hce,iL,hxE];rfl
   have hmC:=hmE;rw [hc] at hmC
   obtain ⟨s1,s2,s3,s4,s5⟩:=kT hd hmC;have hrg:=cD hd hxD;have hrg:1≤n∧n≤9999:=hrg;have et:((bG (aA dc1) c).take (i+1)).foldl (rN 30 [] (aA dc1) y4) (y5 == (-1:Int),y5)=rN 30 [] (aA dc1) y4 (go,sm) [n,k,mi,bb,mu,ab]:=by
    rw [List.take_add_one,hxE,aEg,← h1];rfl
   obtain ⟨j,hj,hxj⟩:=bJm hr hxD;have hin:inR n:=by unfold inR;omega
   have hsE:oU 30 sk0 dc1 n=(fA (aA dc1) [n,k,mi,bb,mu,ab],0):=by
    unfold oU;have:=sS hd hxD;have:ofN (aA dc1) n=some [n,k,mi,bb,mu,ab]:=this;rw [if_neg (by rw [Ne,(vY hr.us hr.ud).2 hr];exact fun q=>q rfl),this]
    dsimp only;rw [if_pos (by omega)]
   have hmE2:oT 30 sk0 dc1 n=(lK 30 [] (aA dc1) [n,k,mi,bb,mu,ab],0):=by
    unfold oT;have:ofN (aA dc1) n=some [n,k,mi,bb,mu,ab]:=sS hd hxD;rw [if_neg (by rw [Ne,(vY hr.us hr.ud).2 hr];exact fun q=>q rfl),this]
   have hco:=aWv hxD s1;have hb:=aTs (dl:=30) (oc:=[]) hd hxD;rw [et];have hi9:inR (((i+1):Nat):Int):=aO (by omega)
   have hj0:(0:Int)≤(j:Int):=by omega
   cases hh:mK 30 [] (aA dc1) y4 [n,k,mi,bb,mu,ab] with
   | true =>
    have hk0:=(iF.1 (hd.rng _ hxD)).2.1;have hk:0≤k∧k≤4:=⟨hk0.1,(lV.1 hh).1⟩;have ea:rN 30 [] (aA dc1) y4 (go,sm) [n,k,mi,bb,mu,ab]=(go || k == 3,byI k sm (lK 30 [] (aA dc1) [n,k,mi,bb,mu,ab])):=by
     unfold rN;rw [hh,if_pos rfl];rfl
    rw [ea];clear ea hh hmC hmE s3 s4 s5;revert hmE2 hb;generalize lK 30 [] (aA dc1) [n,k,mi,bb,mu,ab]=m;intro hmE2 hb;have hk5:k=0∨k=1∨k=2∨k=3∨k=4:=by omega
    rcases hk5 with rfl | rfl | rfl | rfl | rfl
    ·refine ⟨(go,sm+m),⟨by rw [show ((0:Int) == 3)=false from rfl,Bool.or_false];rfl,by dsimp only;omega,by dsimp only;omega⟩,?_⟩
     exact aWz (by omega) hx hr hr.us hr.ud hin hsE hmE2 s2 hwl hco hdl hj hj0 hxj rfl (by unfold inR;omega) hi9 rfl rfl
    ·refine ⟨(go,sm-m),⟨by rw [show ((1:Int) == 3)=false from rfl,Bool.or_false];rfl,by dsimp only;omega,by dsimp only;omega⟩,?_⟩
     exact aXb (by omega) hx hr hr.us hr.ud hin hsE hmE2 s2 hwl hco hdl hj hj0 hxj (by decide) (by decide) rfl (by unfold inR;omega) hi9 rfl rfl
    ·refine ⟨(go,sm+1200*m),⟨by rw [show ((2:Int) == 3)=false from rfl,Bool.or_false];rfl,by dsimp only;omega,by dsimp only;omega⟩,?_⟩
     exact aXc (by omega) hx hr hr.us hr.ud hin hsE hmE2 s2 hwl hco hdl hj hj0 hxj (by decide) (by decide) (by decide) rfl (by unfold inR;omega) (by unfold inR;omega) hi9 rfl rfl
    ·refine ⟨(true,sm),⟨by rw [show ((3:Int) == 3)=true from rfl,Bool.or_true];rfl,by dsimp only;omega,by dsimp only;omega⟩,?_⟩
     exact aXd (by omega) hx hr hr.us hr.ud hin hsE hmE2 s2 hwl hco hdl hj hj0 hxj (by decide) (by decide) (by decide) (by decide) rfl hi9 rfl
    ·refine ⟨(go,sm+m),⟨by rw [show ((4:Int) == 3)=false from rfl,Bool.or_false];rfl,by dsimp only;omega,by dsimp only;omega⟩,?_⟩
     exact aXa (by omega) hx hr hr.us hr.ud hin hsE hmE2 s2 hwl hco hdl hj hj0 hxj (by decide) rfl (by unfold inR;omega) hi9 rfl rfl
   | false =>
    have ea:rN 30 [] (aA dc1) y4 (go,sm) [n,k,mi,bb,mu,ab]=(go,sm):=by
     unfold rN;rw [hh,if_neg Bool.false_ne_true]
    rw [ea];refine ⟨(go,sm),⟨rfl,by dsimp only;omega,by dsimp only;omega⟩,?_⟩
    rcases s3 with q | q | q
    ·rw [hh] at q;cases q
    ·have q:k=6:=q
     subst q;exact aXe (by omega) hx hr hr.us hr.ud hin hsE hmE2 s2 hwl hco hdl hj hj0 hxj (by decide) (by decide) (by decide) (by decide) (by decide) rfl hi9 rfl
    ·have q:k=8:=q
     subst q;exact aXf (by omega) hx hr hr.us hr.ud hin hsE hmE2 s2 hwl hco hdl hj hj0 hxj (by decide) (by decide) (by decide) (by decide) (by decide) (by decide) rfl hi9 rfl)
  (fun a _=>aPa (by omega)) (acc:=(y5 == (-1:Int),y5)) ⟨by simp,by dsimp only;omega,by dsimp only;omega⟩
 have e:wB 30 [] (aA dc1) y4 y5=(go,sm):=by
  have h1:(go,sm)=(bG (aA dc1) c).foldl (rN 30 [] (aA dc1) y4) (y5 == (-1:Int),y5):=by
   rw [hI,hcl,List.take_length]
  have h2:=bIo (dl:=30) (bib:=y4) hd (y5 == (-1:Int),y5);rw [← hc] at h2
  unfold wB;rw [← h2,h1]
 rw [e];exact hL
theorem bPw(hA:∀ {base:Nat},FV Tp 26 [] base (.p (blP true)) [])(l1:List Int)(wh:Int)(hw:0≤wh∧wh≤255){base:Nat}:FV Tp 15 [.p (.sl l1.length (l1.map aN)),.p (.v (.int .u8 wh))] base (.p (blP true)) []:=by
 have M:=aLn (ns:=6) (nd:=18) (l:=l1) (nx:=0) (st:=17) (by decide) (by decide) (by decide)
 rcases hmd:aLm 6 18 l1 0 17 with ⟨sk0,dc1,m2,t3⟩
 rw [hmd] at M
 obtain ⟨hr,hl6,hl18,_,_,_,hb,_,_⟩:=M;dsimp only at hr hl6 hl18 hb
 have hlen:=hr.len;have hd:=dL hr;have ht:0≤wh.tmod (sk0.length:Int)∧wh.tmod (sk0.length:Int)<(sk0.length:Int):=⟨Int.tmod_nonneg _ hw.1,Int.tmod_lt_of_pos _ (by omega)⟩
 have hidx:(wh.tmod (sk0.length:Int)).toNat<sk0.length:=by omega
 have hm0:=gO hidx;obtain ⟨y4,y5,hy⟩:=len2 (hr.us _ hm0);have hx:sk0[(wh.tmod (sk0.length:Int)).toNat]? = some [y4,y5]:=by rw [kQ0 hidx,hy]
 rw [hy] at hm0
 have hsk:=zV.1 (hr.hsk _ hm0);have hy4:1≤y4:=hsk.1.1;have hy5 : -1≤y5∧y5≤360000:=hsk.2;obtain ⟨i,hp,hs⟩:=bWs (sk:=aA sk0) (aLu hr.ns) ((dS sk0).mem_iff.2 hm0);have hp:iH (aA sk0) y4=(i:Int):=hp;have hcl:(cV 30 (aA dc1) y4).length≤1000:=by
  rw [aUx hd,eV];refine gC (sV _ _) ?_;rw [eT];omega
 have hcn:∀ n∈cV 30 (aA dc1) y4,∃ x∈aA dc1,dN x=n:=fun n hn=>aNd hd hn
 have hcn0:∀ n∈([]:List Int),∃ x∈aA dc1,dN x=n:=fun n hn=>by cases hn
 have hex:=bIp (dl:=30) (bib:=y4) hd y5;have hen:=bIq (dl:=30) (D:=aA dc1) (bib:=y4) (t:=y5);have hin:inR wh:=by unfold inR;omega
 have hl:=fun T O=>bEp (T:=T) (O:=O) hr hy4 hy5 (c:=cV 30 (aA dc1) y4) rfl
 have hne:(sk0.length:Int)≠0:=by omega
 have htm:eR 30 [] (aA dc1) y4 y5=if (wB 30 [] (aA dc1) y4 y5).1 then (0,true) else (max 0 (wB 30 [] (aA dc1) y4 y5).2,false):=rfl
 rcases hf:wB 30 [] (aA dc1) y4 y5 with ⟨go,sm⟩
 rw [hf] at htm hl
 dsimp only at htm hl
 cases go with
 | true =>
  have hT:eR 30 [] (aA dc1) y4 y5=(0,true):=htm;rw [hT] at hen
  by_cases h1:y5 = -1
  ·have hen:qC 30 (aA dc1) [] y4 y5=true:=by rw [hen,h1];rfl
   exact bPz (by omega) (by omega) (by omega) hmd hin hne hx ht.1 hr.us hr hp hs rfl hp hs hcl hcn hex hp hs hT hp hs (by simp) hcn0 hen rfl (by rw [h1];rfl) rfl rfl (hl 0 true) rfl rfl hA
  ·have h2:(y5 == (-1:Int))=false:=by simpa using h1
   have hen:qC 30 (aA dc1) [] y4 y5=false:=by rw [hen,h2];simp
   exact bJn (by omega) (by omega) (by omega) hmd hin hne hx ht.1 hr.us hr hp hs rfl hp hs hcl hcn hex hp hs hT hp hs (by simp) hcn0 hen rfl (by rw [h2];rfl) rfl (hl 0 true) rfl rfl rfl hA
 | false =>
  have hT:eR 30 [] (aA dc1) y4 y5=(max 0 sm,false):=htm;rw [hT] at hen
  have hmx:max 0 sm=(if sm > (0:Int) then sm else (0:Int)):=by
   split <;> omega
  by_cases h1:y5 = -1
  ·have hen:qC 30 (aA dc1) [] y4 y5=false:=by rw [hen,h1];simp
   exact bJo (by omega) (by omega) (by omega) hmd hin hne hx ht.1 hr.us hr hp hs rfl hp hs hcl hcn hex hp hs hT hp hs (by simp) hcn0 hen rfl (by rw [h1];rfl) rfl (hl _ false) rfl rfl hmx hA
  ·have h2:(y5 == (-1:Int))=false:=by simpa using h1
   have hen:qC 30 (aA dc1) [] y4 y5=decide (y5=max 0 sm):=by
    rw [hen,h2,if_neg h1,show max 0 y5=y5 by omega]
    simp
   refine bQa (by omega) (by omega) (by omega) hmd hin hne hx ht.1 hr.us hr hp hs rfl hp hs hcl hcn hex hp hs hT hp hs (by simp) hcn0 hen rfl (by rw [h2];rfl) rfl ?_ (hl _ false) rfl hmx hA
   by_cases h3:y5=max 0 sm
   ·rw [decide_eq_true h3,← h3];simp
   ·rw [decide_eq_false h3,show (max 0 sm == y5)=false by simpa using fun e=>h3 e.symm];rfl
end
end
end KV
end Go.Proofs
