/- Parts of the proof of JFirsts: laws of walks, contracts of functions, plain models. No condition. -/
import Derived.Test.YtgejpbmanhlkcaaGreatPJFirstsE
set_option linter.unusedVariables false
set_option linter.unusedSimpArgs false
set_option maxRecDepth 100000
namespace Go.Proofs
namespace KV
section
def qW(t mo:Int)(h:eR):Bool:=decide (h.2.2<t) || (decide (h.2.1<t) && decide (0<mo))
def moM(t mo:Int)(h:eR):Int:=if h.2.2<t then mo else if h.2.1<t then (if 0<mo then mo-1 else mo) else mo
def nV(t:Int)(le:Bool)(c:List bD):bD:=c.getD (bJ (fun x=>decide (x.1<t) == le) c).toNat (0,false,[])
def jT(al:List eR)(i:Nat)(t B0:Int)(q0:List Int):Nat→List Int × Int
 | 0=>(q0,B0)
 | k+1=>match al[k]? with
  | some h=>if k=i then jT al i t B0 q0 k else ((jT al i t B0 q0 k).1++(nV t (qW t (jT al i t B0 q0 k).2 h) h.1).2.2,moM t (jT al i t B0 q0 k).2 h)
  | none=>jT al i t B0 q0 k
def bZr(al:List eR)(i:Nat)(pl:Int)(x:bD):Bool:=if x.2.1 then decide (pl = -1) else within pl (((cK al i x.1).1+1:Nat):Int) (((cK al i x.1).2+1:Nat):Int)
def aAm(al:List eR)(i:Nat)(pl:Int)(f:bD):List Int:=(jT al i f.1 (pl-1-((cK al i f.1).1:Int)) f.2.2 al.length).1
def bTj(al:List eR)(i:Nat)(pl:Int)(c:List bD):Option (List Int):=(c.find? (bZr al i pl)).map fun f=>(aAm al i pl f).mergeSort KL.leB
theorem aGk(t:Int)(le:Bool){c:List bD}(hc:c≠[]):(∃ j:Nat,bJ (fun x=>decide (x.1<t) == le) c=(j:Int)∧c[j]? = some (nV t le c)∧decide ((nV t le c).1<t)=le)∨(bJ (fun x=>decide (x.1<t) == le) c = -1∧c[0]? = some (nV t le c)∧∀ x∈c,decide (x.1<t)≠le):=by
 have h0:0<c.length:=List.length_pos_iff.2 hc;cases hf:c.findIdx? (fun x=>decide (x.1<t) == le) with
 | some j =>
  obtain ⟨hj,h1,_⟩:=List.findIdx?_eq_some_iff_getElem.1 hf;have e:bJ (fun x:bD=>decide (x.1<t) == le) c=(j:Int):=by unfold bJ;rw [hf]
  have ep:nV t le c=c[j]:=by
   unfold nV;rw [e,aPo,Bv,Av hj];rfl
  refine .inl ⟨j,e,by rw [ep,Av hj],?_⟩
  rw [ep];simpa using h1
 | none =>
  have e:bJ (fun x:bD=>decide (x.1<t) == le) c = -1:=by unfold bJ;rw [hf]
  have ep:nV t le c=c[0]:=by
   unfold nV;rw [e,Bv,show (-1:Int).toNat=0 from rfl,Av h0];rfl
  refine .inr ⟨e,by rw [ep,Av h0],fun x hx => ?_⟩
  have:=List.findIdx?_eq_none_iff.1 hf x hx;simpa using this
theorem bZs(t:Int)(le:Bool){c:List bD}(hc:c≠[]):nV t le c∈c:=by
 rcases aGk t le hc with ⟨j,_,h,_⟩ | ⟨_,h,_⟩
 ·exact Bi h
 ·exact Bi h
theorem cKg(l:List bD):mnM l=far∨∃ x∈l,x.1=mnM l:=by
 unfold mnM
 suffices H:∀ (l:List bD) (m:Int),l.foldl (fun m x=>if x.1<m then x.1 else m) m=m∨∃ x∈l,x.1=l.foldl (fun m x=>if x.1<m then x.1 else m) m from H l far
 intro l
 induction l with
 | nil=>exact fun m => .inl rfl
 | cons y l ih =>
  intro m;rw [lE]
  rcases ih (if y.1<m then y.1 else m) with h | ⟨x,hx,e⟩
  ·rw [h]
   split
   ·exact .inr ⟨y,gL ..,rfl⟩
   ·exact .inl rfl
  ·exact .inr ⟨x,Cj _ hx,e⟩
theorem cKh(l:List bD):mxM l=0∨∃ x∈l,x.1=mxM l:=by
 unfold mxM
 suffices H:∀ (l:List bD) (m:Int),l.foldl (fun m x=>if x.1 > m then x.1 else m) m=m∨∃ x∈l,x.1=l.foldl (fun m x=>if x.1 > m then x.1 else m) m from H l 0
 intro l
 induction l with
 | nil=>exact fun m => .inl rfl
 | cons y l ih =>
  intro m;rw [lE]
  rcases ih (if y.1 > m then y.1 else m) with h | ⟨x,hx,e⟩
  ·rw [h]
   split
   ·exact .inr ⟨y,gL ..,rfl⟩
   ·exact .inl rfl
  ·exact .inr ⟨x,Cj _ hx,e⟩
section
variable {dl:Int} {sk dc:Lqq}
abbrev hpM(dl:Int)(D:Lqq)(s:List Int):eR:=iD dl D (s.getD 0 0) (s.getD 1 0) (kB dl D (s.getD 0 0))
theorem bAz(D:Lqq)(s:List Int):(hpM dl D s).1≠[]:=fun e=>bAf _ (List.map_eq_nil_iff.1 e)
theorem uH{D:Lqq}{s:List Int}{x:bD}(hx:x∈(hpM dl D s).1):x=chM dl D (s.getD 0 0) (s.getD 1 0) x.2.2∧x.2.2.Sublist (kB dl D (s.getD 0 0)):=by
 obtain ⟨q,hq,rfl⟩:=Bs.1 hx;exact ⟨rfl,bSv hq⟩
theorem bTk{D:Lqq}{s:List Int}{x:bD}(hx:x∈(hpM dl D s).1):x.1=mE dl D x.2.2 s:=by
 have:=(uH hx).1;exact congrArg (fun y:bD=>y.1) this
theorem bMy(hr:bR dl sk dc){s:List Int}(hs:s∈aB sk){t mo:Int}(ht:t≤far):decide ((nV t (qW t mo (hpM dl (aB dc) s)) (hpM dl (aB dc) s).1).1<t)=qW t mo (hpM dl (aB dc) s):=by
 rcases aGk t (qW t mo (hpM dl (aB dc) s)) (bAz (aB dc) s) with ⟨j,_,_,h⟩ | ⟨_,_,h⟩
 ·exact h
 ·exfalso
  obtain ⟨y,hy⟩:=bUd _ (bAz (dl:=dl) (aB dc) s);cases hl:qW t mo (hpM dl (aB dc) s) with
  | true =>
   rw [hl] at h
   unfold qW at hl
   rw [wN,B7] at hl
   rcases hl with q | ⟨q,_⟩
   ·have q:=of_decide_eq_true q
    have:=cAf hy;have hmx:y.1≤(hpM dl (aB dc) s).2.2:=this;exact h y hy (decide_eq_true (by omega))
   ·have q:=of_decide_eq_true q
    rcases cKg (hpM dl (aB dc) s).1 with e | ⟨x,hx,e⟩
    ·have:(hpM dl (aB dc) s).2.1=far:=e
     omega
    ·have:x.1=(hpM dl (aB dc) s).2.1:=e
     exact h x hx (decide_eq_true (by omega))
  | false =>
   rw [hl] at h
   unfold qW at hl
   rw [Bool.or_eq_false_iff] at hl
   have q:=of_decide_eq_false hl.1
   rcases cKh (hpM dl (aB dc) s).1 with e | ⟨x,hx,e⟩
   ·have e:(hpM dl (aB dc) s).2.2=0:=e
    have hv:=(bTm hr hs y.2.2).1;rw [← bTk hy] at hv
    exact h y hy (decide_eq_false (by omega))
   ·have e:x.1=(hpM dl (aB dc) s).2.2:=e
    exact h x hx (decide_eq_false (by omega))
def chG(al:List eR)(i:Nat)(t B0:Int)(f:bD)(k:Nat):bD:=if k=i then f else match al[k]? with
 | some h=>nV t (qW t (jT al i t B0 f.2.2 k).2 h) h.1
 | none=>f
theorem aNm{i:Nat}{t B0:Int}{f:bD}{si:List Int}(hi:(aB sk)[i]? = some si)(hf:f∈(hpM dl (aB dc) si).1){k:Nat}{s:List Int}(hk:(aB sk)[k]? = some s):chG (aJ dl (aB sk) (aB dc)) i t B0 f k∈(hpM dl (aB dc) s).1:=by
 unfold chG
 by_cases e:k=i
 ·rw [if_pos e]
  subst e;rw [hi] at hk
  cases hk;exact hf
 ·rw [if_neg e,iR hk]
  exact bZs _ _ (bAz (aB dc) s)
theorem aCt{i:Nat}{t B0:Int}{f:bD}{n:Int}:∀ K,K≤(aB sk).length→(n∈(jT (aJ dl (aB sk) (aB dc)) i t B0 f.2.2 K).1↔n∈f.2.2∨∃ k,k<K∧k≠i∧n∈(chG (aJ dl (aB sk) (aB dc)) i t B0 f k).2.2)
 | 0,_=>⟨.inl,fun h=>h.resolve_right fun ⟨k,hk,_⟩=>by omega⟩
 | K+1,hK=>by
  have ih:=aCt (i:=i) (t:=t) (B0:=B0) (f:=f) (n:=n) K (by omega)
  have hs:(aB sk)[K]? = some (aB sk)[K]:=Av (by omega)
  have hat:=iR (dl:=dl) (dc:=aB dc) hs;unfold jT;rw [hat];dsimp only
  by_cases e:K=i
  ·rw [if_pos e,ih]
   constructor
   ·rintro (h | ⟨k,h1,h2,h3⟩)
    ·exact .inl h
    ·exact .inr ⟨k,by omega,h2,h3⟩
   ·rintro (h | ⟨k,h1,h2,h3⟩)
    ·exact .inl h
    ·exact .inr ⟨k,by omega,h2,h3⟩
  ·rw [if_neg e,jX,ih]
   have eg:chG (aJ dl (aB sk) (aB dc)) i t B0 f K=nV t (qW t (jT (aJ dl (aB sk) (aB dc)) i t B0 f.2.2 K).2 (hpM dl (aB dc) (aB sk)[K])) (hpM dl (aB dc) (aB sk)[K]).1:=by
    unfold chG;rw [if_neg e,hat]
   constructor
   ·rintro ((h | ⟨k,h1,h2,h3⟩) | h)
    ·exact .inl h
    ·exact .inr ⟨k,by omega,h2,h3⟩
    ·exact .inr ⟨K,by omega,e,by rw [eg];exact h⟩
   ·rintro (h | ⟨k,h1,h2,h3⟩)
    ·exact .inl (.inl h)
    ·by_cases ek:k=K
     ·subst ek
      rw [eg] at h3
      exact .inr h3
     ·exact .inl (.inr ⟨k,by omega,h2,h3⟩)
theorem aNn{b n:Int}{D:Lqq}(h:n∈kB dl D b):n∈aP dl D∧vK D n=b:=by
 unfold kB at h
 obtain ⟨h1,h2⟩:=kK.1 h;exact ⟨h1,by simpa using h2⟩
theorem aNo{i:Nat}{t B0:Int}{f:bD}{si:List Int}(hi:(aB sk)[i]? = some si)(hf:f∈(hpM dl (aB dc) si).1){k:Nat}{s:List Int}(hk:(aB sk)[k]? = some s){n:Int}(hn:n∈(chG (aJ dl (aB sk) (aB dc)) i t B0 f k).2.2):n∈aP dl (aB dc)∧vK (aB dc) n=s.getD 0 0:=aNn ((uH (aNm hi hf hk)).2.subset hn)
theorem yY(hr:bR dl sk dc){j k:Nat}{s s':List Int}(hj:(aB sk)[j]? = some s)(hk:(aB sk)[k]? = some s')(e:s.getD 0 0=s'.getD 0 0):j=k:=by
 have hp:=bMx hr;obtain ⟨Nj,Du⟩:=B3.1 hj;obtain ⟨Ji,Fg⟩:=B3.1 hk
 rcases Nat.lt_trichotomy j k with q | q | q
 ·have:=List.pairwise_iff_getElem.1 hp j k Nj Ji q
  rw [Du,Fg] at this
  omega
 ·exact q
 ·have:=List.pairwise_iff_getElem.1 hp k j Ji Nj q
  rw [Du,Fg] at this
  omega
theorem aJu(hr:bR dl sk dc){i:Nat}{t B0:Int}{f:bD}{si:List Int}(hi:(aB sk)[i]? = some si)(hf:f∈(hpM dl (aB dc) si).1):∀ K,K≤(aB sk).length→(jT (aJ dl (aB sk) (aB dc)) i t B0 f.2.2 K).1.Nodup∧(jT (aJ dl (aB sk) (aB dc)) i t B0 f.2.2 K).1.length≤(aP dl (aB dc)).length*K+(aP dl (aB dc)).length
 | 0,_=>by
  have hsub:=(uH hf).2.trans (bAx dl (aB dc) (si.getD 0 0));refine ⟨((aGl (dl:=dl) (dW hr)).sublist hsub).imp fun {a b} q e=>by omega,?_⟩
  have:=hsub.length_le;show f.2.2.length≤_;omega
 | K+1,hK=>by
  obtain ⟨ih,ihl⟩:=aJu hr hi hf (t:=t) (B0:=B0) K (by omega)
  have hs:(aB sk)[K]? = some (aB sk)[K]:=Av (by omega)
  have hat:=iR (dl:=dl) (dc:=aB dc) hs;have hm:(aP dl (aB dc)).length*(K+1)=(aP dl (aB dc)).length*K+(aP dl (aB dc)).length:=Nat.mul_succ ..;unfold jT;rw [hat];dsimp only
  by_cases e:K=i
  ·rw [if_pos e];exact ⟨ih,by omega⟩
  ·rw [if_neg e]
   have eg:chG (aJ dl (aB sk) (aB dc)) i t B0 f K=nV t (qW t (jT (aJ dl (aB sk) (aB dc)) i t B0 f.2.2 K).2 (hpM dl (aB dc) (aB sk)[K])) (hpM dl (aB dc) (aB sk)[K]).1:=by
    unfold chG;rw [if_neg e,hat]
   have hg:=aNm (t:=t) (B0:=B0) hi hf hs;have hsub:=(uH hg).2.trans (bAx dl (aB dc) ((aB sk)[K].getD 0 0));have hsl:=hsub.length_le;rw [eg] at hsub hsl
   constructor
   ·rw [List.nodup_append]
    refine ⟨ih,((aGl (dl:=dl) (dW hr)).sublist hsub).imp fun {a b} q e=>by omega,fun a ha b hb hab => ?_⟩
    subst hab;rw [← eg] at hb
    have Fc:=(aNo hi hf hs hb).2
    rcases (aCt (dl:=dl) (dc:=dc) K (by omega)).1 ha with q | ⟨k,q1,q2,q3⟩
    ·have:=(aNn ((uH hf).2.subset q)).2
     exact e (yY hr hs hi (by omega))
    ·have hk:(aB sk)[k]? = some (aB sk)[k]:=Av (by omega)
     have:=(aNo hi hf hk q3).2;have:=yY hr hs hk (by omega)
     omega
   ·rw [iF]
    exact fB (Nat.add_le_add ihl hsl) (by omega)
theorem bZt(hr:bR dl sk dc){i:Nat}{t B0:Int}{f:bD}{si:List Int}(hi:(aB sk)[i]? = some si)(hf:f∈(hpM dl (aB dc) si).1){k:Nat}{s:List Int}(hk:(aB sk)[k]? = some s) :
  cI dl ((jT (aJ dl (aB sk) (aB dc)) i t B0 f.2.2 (aB sk).length).1.mergeSort KL.leB) (aB dc) (sB s) (sT s)=cI dl (chG (aJ dl (aB sk) (aB dc)) i t B0 f k).2.2 (aB dc) (sB s) (sT s):=by
 have hd:=dW hr;have hkl:k<(aB sk).length:=(B3.1 hk).1;refine aJv hd fun y hy hsb => ?_
 have Q1:=cAe hd hy;rw [Bool.eq_iff_iff,List.contains_iff_mem,List.contains_iff_mem,(List.mergeSort_perm _ _).mem_iff,aCt _ (dG _)];have efi:chG (aJ dl (aB sk) (aB dc)) i t B0 f i=f:=by unfold chG;rw [if_pos rfl]
 constructor
 ·rintro (q | ⟨j,q1,q2,q3⟩)
  ·have h1:=(aNn ((uH hf).2.subset q)).2
   have:=yY hr hi hk (h1.symm.trans (Q1.trans hsb));subst this;rw [efi];exact q
  ·have hj:(aB sk)[j]? = some (aB sk)[j]:=Av q1
   have h1:=(aNo hi hf hj q3).2;have:=yY hr hj hk (h1.symm.trans (Q1.trans hsb));subst this;exact q3
 ·intro q
  by_cases e:k=i
  ·subst e
   rw [efi] at q
   exact .inl q
  ·exact .inr ⟨k,hkl,e,q⟩
theorem bBa(hr:bR dl sk dc){i:Nat}{t B0:Int}{f:bD}{si:List Int}(hi:(aB sk)[i]? = some si)(hf:f∈(hpM dl (aB dc) si).1)(ht:t=f.1)(hfar:t≤far)(hmo:0≤B0){o:List Int}(ho:∀ k s,(aB sk)[k]? = some s→mE dl (aB dc) o s=(chG (aJ dl (aB sk) (aB dc)) i t B0 f k).1):∀ n,n≤(aB sk).length →
  ((aNp dl (aB dc) (aB sk) o t n:Nat):Int)=((dA (aJ dl (aB sk) (aB dc)) i t n).1:Int)+(B0-(jT (aJ dl (aB sk) (aB dc)) i t B0 f.2.2 n).2)∧0≤(jT (aJ dl (aB sk) (aB dc)) i t B0 f.2.2 n).2 ∧
  B0-(jT (aJ dl (aB sk) (aB dc)) i t B0 f.2.2 n).2≤((dA (aJ dl (aB sk) (aB dc)) i t n).2:Int)-((dA (aJ dl (aB sk) (aB dc)) i t n).1:Int) ∧
  (0<(jT (aJ dl (aB sk) (aB dc)) i t B0 f.2.2 n).2→B0-(jT (aJ dl (aB sk) (aB dc)) i t B0 f.2.2 n).2=((dA (aJ dl (aB sk) (aB dc)) i t n).2:Int)-((dA (aJ dl (aB sk) (aB dc)) i t n).1:Int))
 | 0,_=>by
  show ((0:Nat):Int)=((0:Nat):Int)+(B0-B0)∧0≤B0∧B0-B0≤((0:Nat):Int)-((0:Nat):Int)∧(0<B0→B0-B0=((0:Nat):Int)-((0:Nat):Int));omega
 | n+1,hn=>by
  obtain ⟨I8,Hw,Rm,N7⟩:=bBa hr hi hf ht hfar hmo ho n (by omega)
  have hs:(aB sk)[n]? = some (aB sk)[n]:=Av (by omega)
  have hat:=iR (dl:=dl) (dc:=aB dc) hs;rw [aJx hs];have hv:=ho n _ hs
  by_cases e:n=i
  ·have e1:jT (aJ dl (aB sk) (aB dc)) i t B0 f.2.2 (n+1)=jT (aJ dl (aB sk) (aB dc)) i t B0 f.2.2 n:=by
    conv=>lhs;unfold jT
    rw [hat];dsimp only;rw [if_pos e]
   have e2:dA (aJ dl (aB sk) (aB dc)) i t (n+1)=dA (aJ dl (aB sk) (aB dc)) i t n:=by
    conv=>lhs;unfold dA
    rw [hat];dsimp only;rw [if_pos e]
   have e3:chG (aJ dl (aB sk) (aB dc)) i t B0 f n=f:=by unfold chG;rw [if_pos e]
   rw [e1,e2,if_neg (by rw [hv,e3,ht];omega)]
   exact ⟨by omega,Hw,Rm,N7⟩
  ·have e1:jT (aJ dl (aB sk) (aB dc)) i t B0 f.2.2 (n+1)=((jT (aJ dl (aB sk) (aB dc)) i t B0 f.2.2 n).1++(nV t (qW t (jT (aJ dl (aB sk) (aB dc)) i t B0 f.2.2 n).2 (hpM dl (aB dc) (aB sk)[n])) (hpM dl (aB dc) (aB sk)[n]).1).2.2,moM t (jT (aJ dl (aB sk) (aB dc)) i t B0 f.2.2 n).2 (hpM dl (aB dc) (aB sk)[n])):=by
    conv=>lhs;unfold jT
    rw [hat];dsimp only;rw [if_neg e]
   have e2:dA (aJ dl (aB sk) (aB dc)) i t (n+1)=((if (hpM dl (aB dc) (aB sk)[n]).2.2<t then (dA (aJ dl (aB sk) (aB dc)) i t n).1+1 else (dA (aJ dl (aB sk) (aB dc)) i t n).1),(if (hpM dl (aB dc) (aB sk)[n]).2.1<t then (dA (aJ dl (aB sk) (aB dc)) i t n).2+1 else (dA (aJ dl (aB sk) (aB dc)) i t n).2)):=by
    conv=>lhs;unfold dA
    rw [hat];dsimp only;rw [if_neg e]
   have e3:chG (aJ dl (aB sk) (aB dc)) i t B0 f n=nV t (qW t (jT (aJ dl (aB sk) (aB dc)) i t B0 f.2.2 n).2 (hpM dl (aB dc) (aB sk)[n])) (hpM dl (aB dc) (aB sk)[n]).1:=by
    unfold chG;rw [if_neg e,hat]
   have hside:=bMy hr (Bi hs) (t:=t) (mo:=(jT (aJ dl (aB sk) (aB dc)) i t B0 f.2.2 n).2) hfar;have hmm:(hpM dl (aB dc) (aB sk)[n]).2.1≤(hpM dl (aB dc) (aB sk)[n]).2.2:=bAg ..;rw [← e3,← hv] at hside
   rw [e1,e2];dsimp only;revert I8 Hw Rm N7 hside hmm;generalize (jT (aJ dl (aB sk) (aB dc)) i t B0 f.2.2 n).2=mo;generalize dA (aJ dl (aB sk) (aB dc)) i t n=sp;generalize mE dl (aB dc) o (aB sk)[n]=v;generalize hpM dl (aB dc) (aB sk)[n]=h;generalize aNp dl (aB dc) (aB sk) o t n=cn;intro I8 Hw Rm N7 hside hmm;unfold qW at hside
   unfold moM
   by_cases c1:h.2.2<t
   ·have hv:v<t:=by
     rw [decide_eq_true c1,Bool.true_or] at hside
     exact of_decide_eq_true hside
    rw [if_pos hv,if_pos c1,if_pos c1,if_pos (by omega)]
    exact ⟨by omega,Hw,by omega,fun q=>by have:=N7 q;omega⟩
   ·rw [decide_eq_false c1,Bool.false_or] at hside
    rw [if_neg c1,if_neg c1]
    by_cases c2:h.2.1<t
    ·rw [decide_eq_true c2,gA] at hside
     rw [if_pos c2,if_pos c2]
     by_cases c3:0<mo
     ·have hv:v<t:=by
       rw [decide_eq_true c3] at hside
       exact of_decide_eq_true hside
      have:=N7 c3;rw [if_pos hv,if_pos c3];exact ⟨by omega,by omega,by omega,fun q=>by omega⟩
     ·have hv:¬ v<t:=by
       rw [decide_eq_false c3] at hside
       exact of_decide_eq_false hside
      rw [if_neg hv,if_neg c3];exact ⟨by omega,Hw,by omega,fun q=>absurd q c3⟩
    ·have hv:¬ v<t:=by
      rw [decide_eq_false c2,Bool.false_and] at hside
      exact of_decide_eq_false hside
     rw [if_neg hv,if_neg c2,if_neg c2];exact ⟨by omega,Hw,Rm,N7⟩
end
end
section
section
variable {dl:Int} {sk dc:Lqq}
theorem bZq{f:List Int→Int × Bool}{S:Lqq}{k:List Int}(h:(f k).2=true):gM f S k = -1:=by
 unfold gM;rw [h,if_pos rfl]
theorem cKf{f:List Int→Int × Bool}{S:Lqq}{k:List Int}{t:Int}(h:(f k).2=false)(ht:(f k).1=t):gM f S k=1+(oB f S t:Int):=by
 unfold gM;rw [h,if_neg Bool.false_ne_true,ht]
theorem bTh(hr:bR dl sk dc){i:Nat}{s:List Int}(hs:(aB sk)[i]? = some s){pl:Int}(h:bTj (aJ dl (aB sk) (aB dc)) i pl (hpM dl (aB dc) s).1=none):¬ (pl = -1∧((hpM dl (aB dc) s).1.any fun x=>x.2.1)=true)∧pl∉eJ (aJ dl (aB sk) (aB dc)) i (hpM dl (aB dc) s).1:=by
 unfold bTj at h
 have h1:=aEm.1 (Option.map_eq_none_iff.1 h);refine ⟨fun ⟨q1,q2⟩ => ?_,fun q => ?_⟩
 ·obtain ⟨x,hx,ho⟩:=List.any_eq_true.1 q2
  have:=h1 x hx;unfold bZr at this
  rw [ho,if_pos rfl,decide_eq_true q1] at this
  exact this rfl
 ·obtain ⟨x,hx,ho,q1,q2⟩:=yZ.1 q
  have:=h1 x hx;unfold bZr at this
  rw [ho,if_neg Bool.false_ne_true] at this
  exact this (bV.2 (by omega))
theorem bTi(hr:bR dl sk dc)(h8:(aP dl (aB dc)).length≤8){i:Nat}{s:List Int}(hs:(aB sk)[i]? = some s){pl:Int}{o:List Int}(h:bTj (aJ dl (aB sk) (aB dc)) i pl (hpM dl (aB dc) s).1=some o) :
  ((pl = -1∧((hpM dl (aB dc) s).1.any fun x=>x.2.1)=true)∨(pl ≠ -1∧pl∈eJ (aJ dl (aB sk) (aB dc)) i (hpM dl (aB dc) s).1))∧aRi dl (aB dc) o=0∧o.length≤1000∧gM (fun s=>cI dl o (aB dc) (sB s) (sT s)) (aB sk) s=pl:=by
 unfold bTj at h
 obtain ⟨f,h1,rfl⟩:=lD.1 h;have hf:=sH h1;have hfb:=aPp h1;have hd:=dW hr;have hal:(aJ dl (aB sk) (aB dc)).length=(aB sk).length:=nK ..;have hsl:(aB sk).length≤30:=by rw [eG];exact hr.len.2
 obtain ⟨n1,n2⟩:=aJu hr hs hf (t:=f.1) (B0:=pl-1-((cK (aJ dl (aB sk) (aB dc)) i f.1).1:Int)) (aB sk).length (dG _);have hm:=fun n=>aCt (dl:=dl) (sk:=sk) (dc:=dc) (i:=i) (t:=f.1) (B0:=pl-1-((cK (aJ dl (aB sk) (aB dc)) i f.1).1:Int)) (f:=f) (n:=n) (aB sk).length (dG _)
 have ht:=fun {k:Nat} {s':List Int} (hk:(aB sk)[k]? = some s')=>bZt hr hs hf (t:=f.1) (B0:=pl-1-((cK (aJ dl (aB sk) (aB dc)) i f.1).1:Int)) hk
 have hcnt:=fun (a:f.1≤far) (b:0≤pl-1-((cK (aJ dl (aB sk) (aB dc)) i f.1).1:Int)) o ho=>bBa (o:=o) hr hs hf (t:=f.1) (B0:=pl-1-((cK (aJ dl (aB sk) (aB dc)) i f.1).1:Int)) rfl a b ho (aB sk).length (dG _)
 have hout:aRi dl (aB dc) ((aAm (aJ dl (aB sk) (aB dc)) i pl f).mergeSort KL.leB)=0:=by
  refine bZu (bZv ?_) fun n hn => ?_
  ·unfold aAm;rw [hal];exact n1
  ·have hn:=(List.mergeSort_perm _ _).mem_iff.1 hn
   unfold aAm at hn
   rw [hal] at hn
   rcases (hm n).1 hn with q | ⟨k,q1,q2,q3⟩
   ·exact (aNn ((uH hf).2.subset q)).1
   ·exact (aNo hs hf (Av q1) q3).1
 have hlen:((aAm (aJ dl (aB sk) (aB dc)) i pl f).mergeSort KL.leB).length≤1000:=by
  rw [bUf];unfold aAm;rw [hal];have h4:(aP dl (aB dc)).length*(aB sk).length≤8*30:=Nat.mul_le_mul h8 hsl;omega
 have efi:∀ B0,chG (aJ dl (aB sk) (aB dc)) i f.1 B0 f i=f:=fun B0=>by unfold chG;rw [if_pos rfl]
 have hfc:=(uH hf).1;have htf:=ht hs;rw [efi] at htf
 have eO:aAm (aJ dl (aB sk) (aB dc)) i pl f=(jT (aJ dl (aB sk) (aB dc)) i f.1 (pl-1-((cK (aJ dl (aB sk) (aB dc)) i f.1).1:Int)) f.2.2 (aB sk).length).1:=by unfold aAm;rw [hal]
 rw [← eO] at htf
 have hoF:f.2.1=(cI dl f.2.2 (aB dc) (sB s) (sT s)).2:=congrArg (fun y:bD=>y.2.1) hfc
 have hvF:f.1=mE dl (aB dc) f.2.2 s:=congrArg (fun y:bD=>y.1) hfc
 unfold bZr at hfb
 cases ho:f.2.1 with
 | true =>
  rw [ho,if_pos rfl] at hfb
  have hpl:=of_decide_eq_true hfb;refine ⟨.inl ⟨hpl,List.any_eq_true.2 ⟨f,hf,ho⟩⟩,hout,hlen,?_⟩;exact (bZq (by show (cI dl ((aAm (aJ dl (aB sk) (aB dc)) i pl f).mergeSort KL.leB) (aB dc) (sB s) (sT s)).2=true;rw [htf,← hoF,ho])).trans hpl.symm
 | false =>
  rw [ho,if_neg Bool.false_ne_true] at hfb
  have hw:=bV.1 hfb;refine ⟨.inr ⟨by omega,yZ.2 ⟨f,hf,ho,by omega,by omega⟩⟩,hout,hlen,?_⟩
  have hb:=bTm hr (Bi hs) f.2.2;have hfar:f.1≤far:=by rw [hvF];exact hb.2
  have Nx:f.1=(cI dl f.2.2 (aB dc) (sB s) (sT s)).1:=by
   rw [hvF];unfold mE chM;dsimp only;have h2:(cI dl f.2.2 (aB dc) (s.getD 0 0) (s.getD 1 0)).2=false:=by
    have:=hoF.symm.trans ho;exact this
   rw [h2];rfl
  obtain ⟨_,_,h3,_⟩:=fN hr;have hbd:=aNl (dl:=dl) (oc:=f.2.2) (b:=sB s) hd (h3 s (Bi hs)).2;refine (cKf (t:=f.1) (by show (cI dl ((aAm (aJ dl (aB sk) (aB dc)) i pl f).mergeSort KL.leB) (aB dc) (sB s) (sT s)).2=false;rw [htf,← hoF,ho]) (by show (cI dl ((aAm (aJ dl (aB sk) (aB dc)) i pl f).mergeSort KL.leB) (aB dc) (sB s) (sT s)).1=f.1;rw [htf,← Nx])).trans ?_
  rw [aRv hr (by rw [Nx];exact hbd.2)]
  obtain ⟨c1,c2,c3,c4⟩:=hcnt hfar (by omega) ((aAm (aJ dl (aB sk) (aB dc)) i pl f).mergeSort KL.leB) fun k s' hk=>by
   have h5:=ht hk;rw [← eO] at h5
   have hg:=aNm (t:=f.1) (B0:=pl-1-((cK (aJ dl (aB sk) (aB dc)) i f.1).1:Int)) hs hf hk;rw [bTk hg];unfold mE chM;have h5:cI dl ((aAm (aJ dl (aB sk) (aB dc)) i pl f).mergeSort KL.leB) (aB dc) (s'.getD 0 0) (s'.getD 1 0)=_:=h5;rw [h5]
  have e5:(cK (aJ dl (aB sk) (aB dc)) i f.1)=dA (aJ dl (aB sk) (aB dc)) i f.1 (aB sk).length:=by
   show dA _ _ _ (aJ dl (aB sk) (aB dc)).length=_;rw [hal]
  rw [e5] at hw c1 c2 c3 c4
  omega
end
end
section

section
variable {dl:Int} {sk dc:Lqq}
end
end
section
section
variable {sk0 Ye:Lqq}
end
end
section
section
variable {sk0 Ye:Lqq}
theorem aYg{l:List Int}(h:l.Pairwise (· ≤ ·)):(Lib.compact l).Pairwise (· < ·):=by
 unfold Lib.compact Lib.compactUpTo;rw [List.pairwise_map];have ea:∀ j,(hj:j<l.length)→l.toArray[j]! = l[j]:=fun j hj=>by
  rw [getElem!_pos l.toArray j (by simpa using hj)];simp
 have hr:((List.range l.length).filter (Lib.keeps l.toArray)).Pairwise (· < ·):=List.pairwise_lt_range.sublist List.filter_sublist
 refine hr.imp_of_mem fun {j k} hj hk hjk => ?_
 obtain ⟨Ji,Fg⟩:=kK.1 hk;have Ji:=iJ.1 Ji;unfold Lib.keeps at Fg
 have I4:=(of_decide_eq_true Fg).resolve_left (by omega)
 rw [ea k Ji,ea (k-1) (by omega)] at I4
 rw [ea j (by omega),ea k Ji]
 have h1:l[k-1]≤l[k]:=List.pairwise_iff_getElem.1 h (k-1) k (by omega) Ji (by omega)
 have h2:l[j]≤l[k-1]:=by
  by_cases e:j=k-1
  ·subst e;exact bCw _
  ·exact List.pairwise_iff_getElem.1 h j (k-1) (by omega) (by omega) (by omega)
 omega
end
end
section

end
section
section
variable {dl:Int} {sk dc:Lqq}
end
end
section
theorem aYh:∀ {a b:List Int},a.Pairwise (· < ·)→b.Pairwise (· < ·)→(∀ n,n∈a↔n∈b)→a=b
 | [],[],_,_,_=>rfl
 | [],y::b,_,_,h=>by have:=(h y).2 (gL ..);cases this
 | x::a,[],_,_,h=>by have:=(h x).1 (gL ..);cases this
 | x::a,y::b,ha,hb,h=>by
  obtain ⟨a1,a2⟩:=aKy.1 ha;obtain ⟨b1,b2⟩:=aKy.1 hb;have hxy:x=y:=by
   rcases fU.1 ((h x).1 (gL ..)) with q | q
   ·exact q
   ·rcases fU.1 ((h y).2 (gL ..)) with r | r
    ·exact r.symm
    ·have:=a1 y r;have:=b1 x q;omega
  subst hxy
  congr 1
  refine aYh a2 b2 fun n=>⟨fun hn => ?_,fun hn => ?_⟩
  ·rcases fU.1 ((h n).1 (Cj _ hn)) with q | q
   ·have:=a1 n hn;omega
   ·exact q
  ·rcases fU.1 ((h n).2 (Cj _ hn)) with q | q
   ·have:=b1 n hn;omega
   ·exact q
section
variable {dl:Int} {D:Lqq} {bib:Int}
end
end
section
theorem bSz{l z:List Int}{x:Int}:z.Sublist (l++[x])↔z.Sublist l∨∃ z',z=z'++[x]∧z'.Sublist l:=by
 rw [List.sublist_append_iff];constructor
 ·rintro ⟨a,b,rfl,h1,h2⟩
  rcases bAy h2 with rfl | rfl
  ·exact .inl (by rw [List.append_nil];exact h1)
  ·exact .inr ⟨a,rfl,h1⟩
 ·rintro (h | ⟨z',rfl,h⟩)
  ·exact ⟨z,[],(List.append_nil z).symm,h,List.nil_sublist _⟩
  ·exact ⟨z',[x],rfl,h,List.Sublist.refl _⟩
theorem qV(op:List Int):∀ z,z∈fV op↔z.Sublist op:=by
 refine yU (Q:=fun op=>∀ z,z∈fV op↔z.Sublist op) ?_ ?_ op
 ·intro z
  show z∈[[]]↔_;rw [List.mem_singleton,List.sublist_nil]
 ·intro l x ih z
  have e:fV (l++[x])=fV l++(fV l).map (· ++ [x]):=by unfold fV;rw [aBy];rfl
  rw [e,jX,Bs,bSz,ih];constructor
  ·rintro (h | ⟨y,hy,rfl⟩)
   ·exact .inl h
   ·exact .inr ⟨y,rfl,(ih y).1 hy⟩
  ·rintro (h | ⟨y,rfl,hy⟩)
   ·exact .inl h
   ·exact .inr ⟨y,(ih y).2 hy,rfl⟩
theorem cKc{a b:List Int}(ha:a.Pairwise (· < ·))(hb:b.Pairwise (· < ·))(h:∀ n∈a,n∈b):a.Sublist b:=by
 have e:a=b.filter fun n=>a.contains n:=by
  refine aYh ha (hb.sublist List.filter_sublist) fun n => ?_
  rw [kK,List.contains_iff_mem];exact ⟨fun hn=>⟨h n hn,hn⟩,fun hn=>hn.2⟩
 rw [e];exact List.filter_sublist
theorem bZp{u:List Int}(h:qU u=true):u.Pairwise (· < ·):=by
 unfold qU at h
 have h:=gJ.1 h;have st:∀ i,0<i→i<u.length→u.getD (i-1) 0<u.getD i 0:=fun i h0 hi=>by
  have:=h i (iJ.2 hi);simp only [wN,beq_iff_eq,decide_eq_true_eq] at this
  omega
 have key:∀ d i,i+(d+1)<u.length→u.getD i 0<u.getD (i+(d+1)) 0:=by
  intro d
  induction d with
  | zero=>intro i hi;have:=st (i+1) (by omega) hi;simpa using this
  | succ d ih =>
   intro i hi;have a:=ih i (by omega)
   have b:=st (i+(d+1)+1) (by omega) hi
   simp only [Nat.add_sub_cancel] at b
   show u.getD i 0<u.getD (i+(d+1)+1) 0;omega
 rw [List.pairwise_iff_getElem];intro i j hi hj hij;have:=key (j-i-1) i (by omega)
 rw [show i+(j-i-1+1)=j by omega] at this
 simpa [Bv,hi,hj] using this
def rsM(dl:Int)(D S:Lqq):List (Lqq):=(fV (aP dl D)).map fun z=>cD dl z D S
section
variable {dl:Int} {sk dc:Lqq}
theorem bTa{D u:Lqq}{o:List Int}(hd:bN D)(h:aRi dl D o=0):o.Sublist (aP dl D):=by
 unfold aRi at h
 cases ha:o.all (ocB (aP dl D)) with
 | false=>rw [ha] at h;simp at h
 | true =>
  rw [ha,if_pos rfl] at h
  cases hb:qU o with
  | false=>rw [hb] at h;simp at h
  | true =>
   refine cKc (bZp hb) (aGl hd) fun n hn => ?_
   have:=gJ.1 ha n hn;unfold ocB at this
   simpa using this
theorem bTb{S D:Lqq}{z:List Int}(hs:S.Pairwise fun a b=>a.getD 0 0<b.getD 0 0){s:List Int}(hm:s∈S):plB (cD dl z D S) (s.getD 0 0)=gM (fT dl z D) S s:=by
 unfold plB vV;rw [aRk (dl:=dl) (oc:=z) (dc:=D) hs hm];rfl
theorem aAl(h:bR dl sk dc):(aB sk).Pairwise fun a b=>a.getD 0 0<b.getD 0 0:=by
 have h1:=iU sk;have h2:=(fN h).2.2.2;unfold aQ at h2
 rw [List.Nodup,List.pairwise_map] at h2
 exact (h1.and h2).imp fun ⟨a,b⟩=>by omega
theorem cKd{i:Nat}{s:List Int}:(eJ (aJ dl (aB sk) (aB dc)) i (hpM dl (aB dc) s).1).Pairwise (· < ·):=by
 unfold eJ;refine aYg ?_;have:=List.pairwise_mergeSort (le:=KL.leB) (fun a b c h1 h2=>by simp only [KL.leB,decide_eq_true_eq] at *;omega) (fun a b=>by simp only [KL.leB,wN,decide_eq_true_eq];omega) ((hpM dl (aB dc) s).1.flatMap (chL (aJ dl (aB sk) (aB dc)) i))
 exact this.imp fun {a b} h=>of_decide_eq_true h
theorem bTc{i:Nat}{s:List Int}:((hpM dl (aB dc) s).1.any fun x => !x.2.1)=true↔eJ (aJ dl (aB sk) (aB dc)) i (hpM dl (aB dc) s).1≠[]:=by
 constructor
 ·exact fun h=>aFt (uA _ _ _) i h
 ·intro h
  obtain ⟨n,hn⟩:=bUd _ h;obtain ⟨x,hx,ho,_⟩:=yZ.1 hn;exact List.any_eq_true.2 ⟨x,hx,by rw [ho];rfl⟩
theorem cKe(s:List Int)(h:((hpM dl (aB dc) s).1.any fun x => !x.2.1)=false):((hpM dl (aB dc) s).1.any fun x=>x.2.1)=true:=by
 obtain ⟨x,hx⟩:=bUd _ (bAz (dl:=dl) (aB dc) s);have:=List.any_eq_false.1 h x hx;exact List.any_eq_true.2 ⟨x,hx,by simpa using this⟩
variable (hr:bR dl sk dc) (h8:(aP dl (aB dc)).length≤8)
include hr
theorem bTd{i:Nat}{s:List Int}(hi:(aB sk)[i]? = some s)(q:Int→Bool):((rsM dl (aB dc) (aB sk)).any fun r=>q (plB r (s.getD 0 0)))=true↔∃ z,z.Sublist (aP dl (aB dc))∧q (gM (fT dl z (aB dc)) (aB sk) s)=true:=by
 unfold rsM;rw [List.any_map,List.any_eq_true];have hm:=Bi hi;constructor
 ·rintro ⟨z,hz,h⟩
  refine ⟨z,(qV _ z).1 hz,?_⟩;have h:q (plB (cD dl z (aB dc) (aB sk)) (s.getD 0 0))=true:=h;rw [bTb (aAl hr) hm] at h
  exact h
 ·rintro ⟨z,hz,h⟩
  refine ⟨z,(qV _ z).2 hz,?_⟩;show q (plB (cD dl z (aB dc) (aB sk)) (s.getD 0 0))=true;rw [bTb (aAl hr) hm];exact h
include h8
theorem bTe{i:Nat}{s:List Int}(hi:(aB sk)[i]? = some s){pl:Int}(h:(pl = -1∧((hpM dl (aB dc) s).1.any fun x=>x.2.1)=true)∨pl∈eJ (aJ dl (aB sk) (aB dc)) i (hpM dl (aB dc) s).1) :
  ∃ z∈fV (aP dl (aB dc)),gM (fT dl z (aB dc)) (aB sk) s=pl:=by
 cases hf:bTj (aJ dl (aB sk) (aB dc)) i pl (hpM dl (aB dc) s).1 with
 | none =>
  have:=bTh hr hi hf
  rcases h with h | h
  ·exact absurd h this.1
  ·exact absurd h this.2
 | some o =>
  obtain ⟨_,h2,_,h4⟩:=bTi hr h8 hi hf;exact ⟨o,(qV _ o).2 (bTa (u:=[]) (dW hr) h2),h4⟩
theorem bTf{i:Nat}{s:List Int}(hi:(aB sk)[i]? = some s):plR (rsM dl (aB dc) (aB sk)) (s.getD 0 0)=eJ (aJ dl (aB sk) (aB dc)) i (hpM dl (aB dc) s).1:=by
 have hm:=Bi hi;have hsl:(aB sk).length≤30:=by rw [eG];exact hr.len.2
 refine aYh ?_ cKd fun p => ?_
 ·unfold plR
  refine List.Pairwise.sublist List.filter_sublist ?_;rw [List.pairwise_map];exact List.pairwise_lt_range.imp fun {a b} h=>by omega
 ·unfold plR
  rw [kK,bTd hr hi (fun x=>x == p),Bs]
  constructor
  ·rintro ⟨⟨j,_,rfl⟩,z,hz,h⟩
   have h:gM (fT dl z (aB dc)) (aB sk) s=(j:Int)+1:=by simpa using h
   have hp:=aRx hr hz hi;cases ho:(cI dl z (aB dc) (sB s) (sT s)).2 with
   | true =>
    rw [ho,if_pos rfl] at hp
    have h2:gM (fT dl z (aB dc)) (aB sk) s = -1:=hp.2;omega
   | false =>
    rw [ho,if_neg Bool.false_ne_true] at hp
    have hp:gM (fT dl z (aB dc)) (aB sk) s∈_:=hp;rw [h] at hp
    exact hp
  ·intro hp
   obtain ⟨z,hz,h⟩:=bTe hr h8 hi (.inr hp);obtain ⟨x,_,_,q1,_⟩:=yZ.1 hp;have hlt:p≤30:=by
    obtain ⟨p1,p2⟩:=oS (fT dl z (aB dc)) (aB sk) s;cases ho:(fT dl z (aB dc) s).2 with
    | true=>have:=p1.2 ho;omega
    | false =>
     have:=p2 ho;have:=bAw (fT dl z (aB dc)) hm;omega
   refine ⟨⟨(p-1).toNat,iJ.2 (by omega),by omega⟩,z,(qV _ z).1 hz,?_⟩
   rw [h];simp
theorem bTg{i:Nat}{s:List Int}(hi:(aB sk)[i]? = some s):gnR (rsM dl (aB dc) (aB sk)) (s.getD 0 0)=(hpM dl (aB dc) s).1.any fun x=>x.2.1:=by
 unfold gnR;rw [Bool.eq_iff_iff,bTd hr hi (fun x=>decide (x<0))]
 constructor
 ·rintro ⟨z,hz,h⟩
  have h:=of_decide_eq_true h;have hp:=aRx hr hz hi;cases ho:(cI dl z (aB dc) (sB s) (sT s)).2 with
  | true =>
   rw [ho,if_pos rfl] at hp
   exact hp.1
  | false =>
   have:=(oS (fT dl z (aB dc)) (aB sk) s).2 ho;omega
 ·intro h
  obtain ⟨z,hz,h⟩:=bTe hr h8 hi (.inl ⟨rfl,h⟩);exact ⟨z,(qV _ z).1 hz,by rw [h];rfl⟩
end
end
section
theorem bOn{C:Cx}{M:Mem}{w:World}{x:PV}{u:Value}(h:Rep C M w (.tup [.p bX,.p x]) u):Rep C M w (.tup [.p (aG []),.p x]) u:=by
 cases h with
 | tup _ vs h1 h2 =>
  refine .tup _ vs h1 fun i hi => ?_
  match i,hi with
  | 0,hi =>
   have h0:=h2 0 (by simp)
   have h0:Rep C M w (.p bX) (vs.getD 0 undef):=h0;show Rep C M w (.p (aG [])) (vs.getD 0 undef);generalize vs.getD 0 undef=v at h0 ⊢
   cases h0 with
   | p _ _ h =>
    cases h;exact .p _ _ aPt
  | 1,hi=>exact h2 1 (by simp)
theorem FMM.nilr{P:Program}{f:Nat}{args:List AV}{M M':Mem}{x:PV}(h:FMM P f args M (.tup [.p bX,.p x]) M'):FMM P f args M (.tup [.p (aG []),.p x]) M':=fun C w us hus hM n=>(h C w us hus hM n).mono fun _ w' ⟨u,q,C',h1,h2,h3⟩=>⟨u,q,C',h1,h2,bOn h3⟩
theorem bOo{l:Lqq}{i:Nat}{x:List Int}(h:l[i]? = some x):l.getD i []=x:=by rw [Bv,h];rfl
theorem aPs(op:List Int):(fV op).length=2 ^ op.length:=by
 refine yU (Q:=fun op=>(fV op).length=2 ^ op.length) rfl ?_ op
 intro l x ih;have e:fV (l++[x])=fV l++(fV l).map (· ++ [x]):=by unfold fV;rw [aBy];rfl
 rw [e,iF,Cb,ih,iF,List.length_singleton,Nat.pow_succ];omega
section
variable {dl:Int} {sk dc:Lqq} {n:Int} {a0:List Int} {e1:Int} {a2:List Int} {e3:Int} {o4:List Int}
theorem bOp(hr:bR dl sk dc)(h8:(aP dl (aB dc)).length≤8) :
  aE Tp 0 (sub (cd Tryz.f5) [1,1,1,1,1,1,1,1,1,1,1,1,0,1,0,0]) (mK dl sk dc n a0 e1 a2 e3 o4 0 [] 0) (.exit 0) (mK dl sk dc n a0 e1 a2 e3 o4 (rsM dl (aB dc) (aB sk)).length (((rsM dl (aB dc) (aB sk)).map reE).flatten) (fV (aP dl (aB dc))).length):=by
 obtain ⟨u2,Ow,hrg,hnd⟩:=fN hr;have hl:=aPs (aP dl (aB dc));have Dc:(fV (aP dl (aB dc))).length≤256:=by
  rw [hl];exact fB (Nat.pow_le_pow_right (by omega) h8) (by decide)
 have:=aE.range (P:=Tp) (k:=0) (b:=sub (cd Tryz.f5) [1,1,1,1,1,1,1,1,1,1,1,1,0,1,0,0]) (e := .exit 0) (fun i (rs:List (Lqq))=>mK dl sk dc n a0 e1 a2 e3 o4 rs.length ((rs.map reE).flatten) i) (fun rs=>mK dl sk dc n a0 e1 a2 e3 o4 rs.length ((rs.map reE).flatten) (fV (aP dl (aB dc))).length) (fun rs z=>rs++[cD dl z (aB dc) (aB sk)]) (fun i rs=>rs.length=i) (by simp) (fV (aP dl (aB dc))) (a0:=[]) rfl
  (fun i z rs hx hi=>by
   have hlt:=aO hx;have hz:=((qV _ z).1 (Bi hx)).length_le;exact ⟨by simp [hi],bCx (Ox:=rs++[cD dl z (aB dc) (aB sk)]) (by omega) hx (dW hr) (by omega) u2 (by omega) (aAl hr) hrg ⟨rfl,by omega⟩ (aH (by omega)) (by simp) (by simp [reE]) rfl⟩)
  (fun rs _=>bCy (by omega))
 have e:∀ (l:Lqq) (rs:List (Lqq)),l.foldl (fun rs z=>rs++[cD dl z (aB dc) (aB sk)]) rs=rs++l.map fun z=>cD dl z (aB dc) (aB sk):=by
  intro l
  induction l with
  | nil=>intro rs;simp
  | cons z l ih=>intro rs;rw [lE,ih];simp
 rw [e,List.nil_append] at this
 exact this
theorem bOq(hr:bR dl sk dc)(h8:(aP dl (aB dc)).length≤8):(∀ r∈rsM dl (aB dc) (aB sk),uni 3 r∧r.length≤1000)∧(rsM dl (aB dc) (aB sk)).length≤1000:=by
 obtain ⟨u2,Ow,hrg,hnd⟩:=fN hr;constructor
 ·intro r hm
  unfold rsM at hm
  obtain ⟨z,_,rfl⟩:=Bs.1 hm;exact ⟨jS,by rw [yT];omega⟩
 ·unfold rsM
  rw [Cb,aPs];exact fB (Nat.pow_le_pow_right (by omega) h8) (by decide)
theorem bOr(hr:bR dl sk dc)(h8:(aP dl (aB dc)).length≤8) :
  aE Tp 0 (sub (cd Tryz.f5) [1,1,1,1,1,1,1,1,1,1,1,1,1,1,1,0,1,0,0]) (eM dl sk dc n a0 e1 a2 e3 o4 (rsM dl (aB dc) (aB sk)) 0 [] 0 [] 0) (.exit 2) (eM dl sk dc n a0 e1 a2 e3 o4 (rsM dl (aB dc) (aB sk)) (aNd dl (aB sk) (aB dc) n).length ((aNd dl (aB sk) (aB dc) n).map aA) (tZ dl (aB sk) (aB dc) n).length ((tZ dl (aB sk) (aB dc) n).map aA) (aB sk).length):=by
 obtain ⟨u2,Ow,hrg,hnd⟩:=fN hr;obtain ⟨g1,g2⟩:=bOq hr h8;obtain ⟨⟨ca,mu⟩,⟨hca,hmu⟩,hL⟩:=aE.ex (P:=Tp) (k:=0) (b:=sub (cd Tryz.f5) [1,1,1,1,1,1,1,1,1,1,1,1,1,1,1,0,1,0,0]) (e := .exit 2) (fun i (a:List Int × List Int)=>eM dl sk dc n a0 e1 a2 e3 o4 (rsM dl (aB dc) (aB sk)) a.1.length (a.1.map aA) a.2.length (a.2.map aA) i) (fun a=>eM dl sk dc n a0 e1 a2 e3 o4 (rsM dl (aB dc) (aB sk)) a.1.length (a.1.map aA) a.2.length (a.2.map aA) (aB sk).length)
  (fun i a=>a.1=((List.range i).filter (aHf dl (aB sk) (aB dc) n)).map (fun i=>((aB sk).getD i []).getD 0 0)∧a.2=((List.range i).filter (sG dl (aB sk) (aB dc) n)).map fun i=>((aB sk).getD i []).getD 0 0) (by simp) (aB sk).length
  (fun i a hi hI=>by
   obtain ⟨ca,mu⟩:=a;obtain ⟨hca,hmu⟩:=hI;dsimp only at hca hmu
   have l1:ca.length≤i:=by rw [hca,Cb];exact fB (mI _ _) (by simp)
   have l2:mu.length≤i:=by rw [hmu,Cb];exact fB (mI _ _) (by simp)
   have hs:(aB sk)[i]? = some (aB sk)[i]:=Av hi;obtain ⟨y0,y1,hy⟩:=len2 (u2 _ (fL hi));rw [hy] at hs
   have hat:=iR (dl:=dl) (dc:=aB dc) hs;have hP:=bTf hr h8 hs;have hG:=bTg hr h8 hs;have hin:=bTc (dl:=dl) (sk:=sk) (dc:=dc) (i:=i) (s:=[y0,y1]);have hgd:((aB sk).getD i []).getD 0 0=y0:=by rw [bOo hs];rfl
   have hc:aHf dl (aB sk) (aB dc) n i=aRr (eJ (aJ dl (aB sk) (aB dc)) i (hpM dl (aB dc) [y0,y1]).1) ((hpM dl (aB dc) [y0,y1]).1.any fun x => !x.2.1) n:=by
    unfold aHf;rw [hat]
   have hm:sG dl (aB sk) (aB dc) n i=aMi (eJ (aJ dl (aB sk) (aB dc)) i (hpM dl (aB dc) [y0,y1]).1) ((hpM dl (aB dc) [y0,y1]).1.any fun x=>x.2.1) ((hpM dl (aB dc) [y0,y1]).1.any fun x => !x.2.1) n:=by
    unfold sG;rw [hat]
   have hlen:(eJ (aJ dl (aB sk) (aB dc)) i (hpM dl (aB dc) [y0,y1]).1).length≤30:=by
    rw [← hP];unfold plR;exact fB (mI _ _) (by simp)
   have hP:plR (rsM dl (aB dc) (aB sk)) y0=_:=hP;have hG:gnR (rsM dl (aB dc) (aB sk)) y0=_:=hG;revert hP hG hin hc hm hlen;generalize eJ (aJ dl (aB sk) (aB dc)) i (hpM dl (aB dc) [y0,y1]).1=l;generalize ((hpM dl (aB dc) [y0,y1]).1.any fun x => !x.2.1)=b
   generalize ((hpM dl (aB dc) [y0,y1]).1.any fun x=>x.2.1)=g
   intro hin hc hm hlen hP hG;have hil:(i:Int)<(((aB sk).length:Nat):Int):=by omega
   have hn:inR (((i+1:Nat):Nat):Int):=aH (by omega)
   refine ⟨(if aHf dl (aB sk) (aB dc) n i then ca++[y0] else ca,if sG dl (aB sk) (aB dc) n i then mu++[y0] else mu),⟨?_,?_⟩,?_⟩
   ·dsimp only
    rw [List.range_succ,kU,fM,← hca,List.filter_cons,List.filter_nil]
    split
    ·rw [fZ,List.map_nil,hgd]
    ·simp
   ·dsimp only
    rw [List.range_succ,kU,fM,← hmu,List.filter_cons,List.filter_nil]
    split
    ·rw [fZ,List.map_nil,hgd]
    ·simp
   ·dsimp only
    rw [hc,hm];unfold aRr aMi
    by_cases hl0:l=[]
    ·have hb:b=false:=by
      cases b with
      | true=>exact absurd hl0 (hin.1 rfl)
      | false=>rfl
     rw [hb];simp only [Bool.false_and,Bool.false_eq_true,if_false];exact bDf hil hs u2 g1 g2 hP hG (by rw [hl0];simp) hn rfl
    ·have hb:b=true:=hin.2 hl0
     rw [hb];simp only [gA];have hlp:0<l.length:=List.length_pos_iff.2 hl0;have q0:l[0]? = some (l.getD 0 0):=by rw [Bv,Av hlp];rfl
     have ek:(((l.length:Int)-(1:Int))).toNat=l.length-1:=by omega
     have q1:l[(((l.length:Int)-(1:Int))).toNat]? = some (l.getD (l.length-1) 0):=by
      rw [ek,Bv,Av (by omega)];rfl
     have Gm:(0:Int)<(l.length:Int):=by omega
     have H4:inR ((l.length:Int)-(1:Int)):=by unfold inR;omega
     by_cases c1:l.getD 0 0≤n
     ·rw [decide_eq_true c1]
      cases g with
      | true =>
       simp only [Bool.not_true,Bool.false_and,Bool.false_eq_true,if_false,if_true];exact bDb (H7:=ca++[y0]) hil hs u2 g1 g2 hP hG Gm q0 c1 ⟨rfl,by omega⟩ rfl hn (by simp) (by simp) rfl
      | false =>
       by_cases c2:l.getD (l.length-1) 0≤n
       ·rw [decide_eq_true c2]
        simp only [Bool.not_false,gA,if_true];exact bCz (H7:=ca++[y0]) (Kn:=mu++[y0]) hil hs u2 g1 g2 hP hG Gm q0 c1 ⟨rfl,by omega⟩ rfl H4 q1 (by omega) c2 ⟨rfl,by omega⟩ hn (by simp) (by simp) (by simp) (by simp) rfl
       ·rw [decide_eq_false c2]
        simp only [Bool.and_false,Bool.false_eq_true,if_false,if_true];exact bDa (H7:=ca++[y0]) hil hs u2 g1 g2 hP hG Gm q0 c1 ⟨rfl,by omega⟩ rfl H4 q1 (by omega) (by omega) hn (by simp) (by simp) rfl
     ·rw [decide_eq_false c1]
      cases g with
      | true =>
       simp only [Bool.not_true,Bool.false_and,Bool.false_eq_true,if_false];exact bDe hil hs u2 g1 g2 hP hG Gm q0 (by omega) rfl hn rfl
      | false =>
       by_cases c2:l.getD (l.length-1) 0≤n
       ·rw [decide_eq_true c2]
        simp only [Bool.not_false,gA,if_true,Bool.false_eq_true,if_false];exact bDc (Kn:=mu++[y0]) hil hs u2 g1 g2 hP hG Gm q0 (by omega) rfl H4 q1 (by omega) c2 ⟨rfl,by omega⟩ hn (by simp) (by simp) rfl
       ·rw [decide_eq_false c2]
        simp only [Bool.and_false,Bool.false_eq_true,if_false];exact bDd hil hs u2 g1 g2 hP hG Gm q0 (by omega) rfl H4 q1 (by omega) (by omega) hn rfl)
  (fun a _=>bDg (by omega)) (acc:=([],[])) ⟨by simp,by simp⟩
 dsimp only at hca hmu hL
 have e1:ca=aNd dl (aB sk) (aB dc) n:=hca;have e2:mu=tZ dl (aB sk) (aB dc) n:=hmu;rw [e1,e2] at hL
 exact hL
theorem bUl(hr:bR dl sk dc){i:Nat}{s:List Int}(hi:(aB sk)[i]? = some s):(yW dl (aB sk) (aB dc)).contains (s.getD 0 0)=aNi (eJ (aJ dl (aB sk) (aB dc)) i (hpM dl (aB dc) s).1) ((hpM dl (aB dc) s).1.any fun x=>x.2.1) ((hpM dl (aB dc) s).1.any fun x => !x.2.1):=by
 have hat:=iR (dl:=dl) (dc:=aB dc) hi;have e:aRs dl (aB sk) (aB dc) i=aNi (eJ (aJ dl (aB sk) (aB dc)) i (hpM dl (aB dc) s).1) ((hpM dl (aB dc) s).1.any fun x=>x.2.1) ((hpM dl (aB dc) s).1.any fun x => !x.2.1):=by
  unfold aRs;rw [hat]
 rw [← e,Bool.eq_iff_iff,List.contains_iff_mem];unfold yW;rw [Bs];constructor
 ·rintro ⟨j,hj,h⟩
  obtain ⟨h1,h2⟩:=kK.1 hj;have hjl:=iJ.1 h1;have Du:(aB sk)[j]? = some (aB sk)[j]:=Av hjl;rw [bOo Du] at h
  have:=yY hr Du hi h;rw [← this];exact h2
 ·intro h
  refine ⟨i,kK.2 ⟨iJ.2 (aO hi),h⟩,?_⟩;rw [bOo hi]
theorem bOs(hr:bR dl sk dc)(h8:(aP dl (aB dc)).length≤8){ca mu:List Int} :
  aE Tp 0 (sub (cd Tryz.f5) [1,1,1,1,1,1,1,1,1,1,1,1,1,1,1,1,0,1,0,0]) (gV dl sk dc n a0 e1 a2 e3 o4 (rsM dl (aB dc) (aB sk)) ca mu 0 [] 0) (.exit 4) (gV dl sk dc n a0 e1 a2 e3 o4 (rsM dl (aB dc) (aB sk)) ca mu (eK (cD dl [] (aB dc) (aB sk)) (yW dl (aB sk) (aB dc))).length ((eK (cD dl [] (aB dc) (aB sk)) (yW dl (aB sk) (aB dc))).flatten.map aA) (cD dl [] (aB dc) (aB sk)).length):=by
 obtain ⟨u2,Ow,hrg,hnd⟩:=fN hr;obtain ⟨g1,g2⟩:=bOq hr h8;have hrl:(cD dl [] (aB dc) (aB sk)).length≤30:=by rw [yT];exact Ow
 have hmem:=(aGh (dl:=dl) (oc:=[]) (dc:=aB dc) (aAl hr)).2.2;have:=aE.range (P:=Tp) (k:=0) (b:=sub (cd Tryz.f5) [1,1,1,1,1,1,1,1,1,1,1,1,1,1,1,1,0,1,0,0]) (e := .exit 4) (fun i (su:Lqq)=>gV dl sk dc n a0 e1 a2 e3 o4 (rsM dl (aB dc) (aB sk)) ca mu su.length (su.flatten.map aA) i) (fun su=>gV dl sk dc n a0 e1 a2 e3 o4 (rsM dl (aB dc) (aB sk)) ca mu su.length (su.flatten.map aA) (cD dl [] (aB dc) (aB sk)).length) (fun su x=>if (yW dl (aB sk) (aB dc)).contains (x.getD 0 0) then su++[x] else su) (fun i su=>su.length≤i) (by simp) (cD dl [] (aB dc) (aB sk)) (a0:=[]) (by simp)
  (fun i x su hx hsu=>by
   have hlt:=aO hx;have hxm:=Bi hx;obtain ⟨s,hsm,e1,_⟩:=hmem x hxm;obtain ⟨j,hj⟩:=List.mem_iff_getElem?.1 hsm;obtain ⟨x0,x1,x2,rfl⟩:=Da (jS x hxm);have e1:s.getD 0 0=x0:=e1;have hP:=bTf hr h8 hj;have hG:=bTg hr h8 hj;have hS:=bUl (dl:=dl) hr hj;have hin:=bTc (dl:=dl) (sk:=sk) (dc:=dc) (i:=j) (s:=s);have hou:=cKe (dl:=dl) (dc:=dc) s;rw [e1] at hP hG hS
   rw [show ([x0,x1,x2]:List Int).getD 0 0=x0 from rfl,hS]
   have hil:(i:Int)<(((cD dl [] (aB dc) (aB sk)).length:Nat):Int):=by omega
   have hn:inR (((i+1:Nat):Nat):Int):=aH (by omega)
   revert hP hG hin hou;generalize eJ (aJ dl (aB sk) (aB dc)) j (hpM dl (aB dc) s).1=l;generalize ((hpM dl (aB dc) s).1.any fun x => !x.2.1)=b
   generalize ((hpM dl (aB dc) s).1.any fun x=>x.2.1)=g
   intro hP hG hin hou;unfold aNi
   by_cases hl0:l=[]
   ·have hb:b=false:=by
     cases b with
     | true=>exact absurd hl0 (hin.1 rfl)
     | false=>rfl
    have hg:g=true:=hou hb;rw [hb,hg,hl0];simp only [List.length_nil];rw [if_pos (by decide)]
    rw [hl0] at hP
    exact ⟨by simp;omega,bDj (Ko:=su++[[x0,x1,x2]]) hil hx jS g1 g2 hP hG (by decide) rfl ⟨rfl,by omega⟩ hn (by simp) (by simp) rfl⟩
   ·have hb:b=true:=hin.2 hl0
    have hlp:0<l.length:=List.length_pos_iff.2 hl0;rw [hb]
    by_cases h1:l.length=1
    ·cases g with
     | true =>
      rw [if_neg (by simp)]
      exact ⟨by omega,bDi hil hx jS g1 g2 hP hG (by omega) rfl (by omega) hn rfl⟩
     | false =>
      rw [if_pos (by rw [h1];decide)]
      exact ⟨by simp;omega,bDh (Ko:=su++[[x0,x1,x2]]) hil hx jS g1 g2 hP hG (by omega) rfl ⟨rfl,by omega⟩ hn (by simp) (by simp) rfl⟩
    ·rw [if_neg (by
      rw [B7,decide_eq_true_eq];intro h;omega)]
     exact ⟨by omega,bDk hil hx jS g1 g2 hP hG (by omega) (by omega) hn rfl⟩)
  (fun su _=>bDl (by omega))
 have e:∀ (l su:Lqq),l.foldl (fun su x=>if (yW dl (aB sk) (aB dc)).contains (x.getD 0 0) then su++[x] else su) su=su++eK l (yW dl (aB sk) (aB dc)):=by
  intro l
  induction l with
  | nil=>intro su;simp [eK]
  | cons x l ih =>
   intro su;rw [lE,ih];unfold eK;rw [List.filter_cons];cases h:(yW dl (aB sk) (aB dc)).contains (x.getD 0 0) with
   | true=>simp
   | false=>simp
 rw [e,List.nil_append] at this
 exact this
end
theorem cAs(haw:∀ {base:Nat},FV Tp 26 [] base (.p (blP true)) [])(dl:Int)(sk dc:Lqq)(n:Int)(us:uni 2 sk)(ud:uni 6 dc)(hn:inR n){base:Nat}:FV Tp 5 [.p (.agg (bB dl sk dc)),.p (aA n)] base (.p (blP true)) []:=by
 cases hg:tJ sk dc 5 14 with
 | true=>exact cAt hg haw
 | false =>
 have hs:=of_decide_eq_false hg;have l1:sk.length≤1000:=by omega
 have l2:dc.length≤1000:=by omega
 by_cases h1:jQ dl sk dc=0
 ·have hr:=(aZk us ud).1 h1
  have hd:=dW hr;obtain ⟨u2,Ow,hrg,hnd⟩:=fN hr;have Q7:sk.length<20:=by have:=hr.len;omega
  by_cases h8:(aP dl (aB dc)).length≤8
  ·have hc:=cKa hr (f:=1) (by omega) h8
   have hsl:(yW dl (aB sk) (aB dc)).length≤1000:=by
    unfold yW;rw [Cb];exact fB (mI _ _) (by simp;omega)
   have hkl:(eK (cD dl [] (aB dc) (aB sk)) (yW dl (aB sk) (aB dc))).length≤1000:=by
    unfold eK;refine fB (mI _ _) ?_;rw [yT];omega
   have hku:uni 3 (eK (cD dl [] (aB dc) (aB sk)) (yW dl (aB sk) (aB dc))):=fun x hx=>jS x (kK.1 hx).1
   by_cases hf:1≤n
   ·have hA:∀ {base:Nat},FV Tp 32 [.p (.agg (bB dl sk dc)),.p (aA n)] base (.tup [.p (aG (aNd dl (aB sk) (aB dc) n)),.p (aA 0)]) []:=cJi hr hf h8
    have hB:∀ {base:Nat},FV Tp 33 [.p (.agg (bB dl sk dc)),.p (aA n)] base (.tup [.p (aG (tZ dl (aB sk) (aB dc) n)),.p (aA 0)]) []:=bRf hr hf h8
    by_cases h5:(5:Int)<(((aP dl (aB dc)).length:Nat):Int)
    ·exact bOv hg us l1 ud l2 h1 hr hA hB Q7 hc hsl hd h5 haw
    ·have cl:(aNd dl (aB sk) (aB dc) n).length≤1000:=by
      unfold aNd;rw [Cb];exact fB (mI _ _) (by simp;omega)
     have ml:(tZ dl (aB sk) (aB dc) n).length≤1000:=by
      unfold tZ;rw [Cb];exact fB (mI _ _) (by simp;omega)
     exact bUm hg us l1 ud l2 h1 hr hA hB Q7 hc hsl hd (by omega) h8 (bOp hr h8) (bOr hr h8) (by simp) u2 (by omega) (aAl hr) hrg (bOs hr h8) hf rfl rfl cl (by simp) ml (by simp) hku hkl rfl ⟨us,l1⟩ ⟨ud,l2⟩ (by simp) haw
   ·have hA:∀ {base:Nat},FV Tp 32 [.p (.agg (bB dl sk dc)),.p (aA n)] base (.tup [.p (aG []),.p (aA 3)]) []:=FV.frz (FMM.nilr (aLd (fun base=>bSt hr (by omega)) (by decide))) rfl
    have hB:∀ {base:Nat},FV Tp 33 [.p (.agg (bB dl sk dc)),.p (aA n)] base (.tup [.p (aG []),.p (aA 3)]) []:=FV.frz (FMM.nilr (aLe (fun base=>bRh hr (by omega)) (by decide))) rfl
    by_cases h5:(5:Int)<(((aP dl (aB dc)).length:Nat):Int)
    ·exact bOv hg us l1 ud l2 h1 hr hA hB Q7 hc hsl hd h5 haw
    ·exact cAv hg us l1 ud l2 h1 hr hA hB Q7 hc hsl hd (by omega) h8 (bOp hr h8) (bOr hr h8) (by simp) u2 (by omega) (aAl hr) hrg (bOs hr h8) (by omega) rfl rfl (by simp) (by simp) (by simp) (by simp) hku hkl rfl ⟨us,l1⟩ ⟨ud,l2⟩ (by simp) haw
  ·have h8:8<(aP dl (aB dc)).length:=by omega
   have hC:∀ {base:Nat},FV Tp 34 [.p (.agg (bB dl sk dc))] base (.tup [.p bX,.p (aA 10)]) []:=bOt (fun base=>cJs hr (by omega) h8) (by decide)
   by_cases hf:1≤n
   ·exact aZd hg us l1 ud l2 h1 hr (FV.frz (aLd (fun base=>cJm hr hf h8) (by decide)) rfl) (FV.frz (aLe (fun base=>cHe hr hf h8) (by decide)) rfl) hC hd (by omega) haw
   ·exact aZd hg us l1 ud l2 h1 hr (FV.frz (aLd (fun base=>bSt hr (by omega)) (by decide)) rfl) (FV.frz (aLe (fun base=>bRh hr (by omega)) (by decide)) rfl) hC hd (by omega) haw
 ·exact cAu hg us l1 ud l2 h1 (FV.frz (aLd (fun base=>cJn us ud h1 rfl) h1) rfl) (FV.frz (aLe (fun base=>cHf us ud h1 rfl) h1) rfl) (bOt (fun base=>cJt us ud h1 rfl) h1) rfl ⟨us,l1⟩ ⟨ud,l2⟩ (by simp) haw
end
end KV
end Go.Proofs
