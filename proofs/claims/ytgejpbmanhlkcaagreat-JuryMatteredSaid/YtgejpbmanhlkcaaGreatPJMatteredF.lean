/- Parts of the proof of JMattered: laws of walks, contracts of functions, plain models. No condition. -/
import Derived.Test.YtgejpbmanhlkcaaGreatPJMatteredE
set_option linter.unusedVariables false
set_option linter.unusedSimpArgs false
set_option maxRecDepth 100000
namespace Go.Proofs
namespace KV
section
def fW(l:Lqq)(su:List Int):Lqq:=l.filter fun x => !(!(su.contains (x.getD 0 0)))
theorem bJl{l:Lqq}{su:List Int}(hu:uni 3 l)(hl:l.length≤1000)(hsu:su.length≤1000) :
  (∃ i n,l[i]? = some n∧l.findIdx? (fun x => !(su.contains (x.getD 0 0)))=some i∧(!(su.contains (n.getD 0 0)))=true∧bJs l su (i:Int))∨(l.any (fun x => !(su.contains (x.getD 0 0)))=false∧bJs l su (-1)):=by
 rcases aJ.find (P:=Tp) (k:=1) (b:=(sub (cd Tryz.f162) [1,0,1,0,0])) (fun i=>fL l su i) (fun i _=>cE (fL l su i) [(4,.p (aA (i:Int)))]) (fL l su l.length) .ret (.exit 0) (by simp) (by simp) (fun x => !(su.contains (x.getD 0 0))) l
  (fun i x hx hq=>by
   obtain ⟨a,b,c,rfl⟩:=len3 (hu _ (kQ5 hx));exact aPa (by have:=bD hx;omega) hx hu hsu hq (aP (by have:=bD hx;omega)) rfl)
  (fun i x hx hq=>by
   obtain ⟨a,b,c,rfl⟩:=len3 (hu _ (kQ5 hx));exact aOz (by have:=bD hx;omega) hx hu hsu hq)
  (aPb (by omega)) with ⟨i,x,h1,h2,h3,h4⟩ | ⟨h1,h2,h3⟩
 ·exact .inl ⟨i,x,h1,h2,h3,bJr h4⟩
 ·exact .inr ⟨h2,bJq h3⟩
theorem bPz(l:Lqq)(su:List Int)(hu:uni 3 l)(hl:l.length≤1000)(hsu:su.length≤1000) :
  FMM Tp 97 [.own 0,.fn 98 [] [.rp [aE su] 0]] [some (.row 48 l.length (l.flatten.map aA))] (.p (.sl (fW l su).length ((fW l su).flatten.map aA))) [some .dead]:=by
 rcases bJl (su:=su) hu hl hsu with ⟨i,n,h1,h2,h3,h4⟩ | ⟨h1,h2⟩
 ·have hi:=bD h1
  obtain ⟨d,hm⟩:∃ d,i+1+d=l.length:=⟨l.length-(i+1),by omega⟩
  obtain ⟨⟨c,k⟩,hI,hL⟩:=aJ.ex (P:=Tp) (k:=1) (b:=(sub (cd Tryz.f97) [1,1,1,0,1,0,0])) (e := .exit 0) (fun j (x:Lqq × Nat)=>kI su x.1.length (x.1.flatten.map aA) x.2 (i+1+j)) (fun x=>kI su x.1.length (x.1.flatten.map aA) x.2 l.length)
   (fun j x=>aDw (fun x => !(su.contains (x.getD 0 0))) l (i+1+j) x∧uni 3 x.1) (by simp) d
   (fun j x hj hx=>by
    obtain ⟨hI,hs⟩:=hx;have hlt:i+1+j<x.1.length:=by rw [hI.len];omega
    have hle:=hI.le;have hlen:=hI.len;obtain ⟨y,hy⟩:∃ y,x.1[i+1+j]? = some y:=⟨_,kQ0 hlt⟩;obtain ⟨y0,y1,y2,rfl⟩:=len3 (hs y (kQ5 hy));cases hq:(!(su.contains y0)) with
    | true=>exact ⟨x,⟨hI.skip (by omega) hy hq,hs⟩,aWy (by omega) hy hs hsu hq (aP (by omega)) rfl⟩
    | false =>
     obtain ⟨z,hz⟩:∃ z,x.1[x.2]? = some z:=⟨_,kQ0 (by omega)⟩
     obtain ⟨z0,z1,z2,rfl⟩:=len3 (hs z (kQ5 hz));have hle2:=bI hs hz;refine ⟨_,⟨hI.keep (by omega) hy hq,fun n hn => ?_⟩,aWx (c:=x.1) (c':=x.1.set x.2 [y0,y1,y2]) (by omega) hy hs hsu hq hz ⟨rfl,hle2⟩ (aP (by omega)) (aP (by omega)) (by simp) (qT hs (by omega) rfl).symm rfl rfl⟩
     rcases List.mem_or_eq_of_mem_set hn with h | rfl
     ·exact hs n h
     ·rfl)
   (fun x hx=>by
    have:=aWz (su:=su) (c:=x.1) (i:=x.2) (j:=l.length) (by rw [hx.1.len];omega)
    rw [show i+1+d=l.length from hm];exact this)
   (acc:=(l,i)) ⟨aDw.start h1 h3 (aJd h2),hu⟩
  obtain ⟨hI,hs⟩:=hI;have hlen:=hI.len;have hle:=hI.le;have hk:=hI.kept;simp only [hm,List.take_length] at hlen hle hk
  have hcl:(c.flatten.map aA).length=c.length*3:=vM hs;have hk3:k*3≤c.length*3:=Nat.mul_le_mul_right _ (by omega)
  have hsum:k*3+(c.length-k)*3=c.length*3:=by rw [← Nat.add_mul];congr 1;omega
  have fin:=bQj (l:=l) (c'1:=c) (i'2:=k) (j'3:=l.length) (r0c:=(c.take k).flatten.map aA) h4 (by omega) (aP (by omega)) hL ⟨by omega,by omega,by omega⟩ (by rw [hcl];omega) ⟨by omega,by omega,by omega⟩ (by
   have hz:((List.replicate (c.length-k) (List.map PV.v [(.int .i64 0),(.int .i64 0),(.int .i64 0)])).flatten).length=(c.length-k)*3:=by
    rw [List.length_flatten];simp
   have hL2:(((c.flatten.map aA).take (k*3))++(List.replicate (c.length-k) (List.map PV.v [(.int .i64 0),(.int .i64 0),(.int .i64 0)])).flatten++(c.flatten.map aA).drop (k*3+(c.length-k)*3)).length=c.length*3:=by
    rw [lG,lG,hz,kY,aWd,hcl];omega
   rw [List.drop_zero,hL2,bEa c.length 3,Nat.mul_div_cancel _ (by omega:0<c.length),List.append_assoc,List.take_append_of_le_length (by rw [kY,hcl];omega),List.take_take,Nat.min_self,← List.map_take,aHg _ hs])
  have hk':c.take k=fW l su:=hk;rw [← hk'];have e:(c.take k).length=k:=by rw [kY,Nat.min_eq_left (by omega)]
  rw [e];exact fin
 ·have:fW l su=l:=List.filter_eq_self.2 fun n hn=>by
   have:=List.any_eq_false.1 h1 n hn;simpa using this
  rw [this];exact bQk h2
def aOv(dl:Int)(sk dc:Lqq)(i:Nat):Bool:=match (aX dl sk dc)[i]? with
 | some h=>aHl (gL (aX dl sk dc) i h.1) (h.1.any fun x=>x.2.1) (h.1.any fun x => !x.2.1)
 | none=>false
def aWq(dl:Int)(sk dc:Lqq):List Int:=((List.range sk.length).filter (aOv dl sk dc)).map fun i=>(sk.getD i []).getD 0 0
theorem bQa{dl:Int}{sk dc:Lqq}(h:bQ dl sk dc){f:Int}(hf:1≤f)(ho:(aI dl (aB dc)).length≤8):bEh dl sk dc f (aWq dl (aB sk) (aB dc)):=fun base=>by
 obtain ⟨h1,h2,_,_⟩:=pP h;obtain ⟨o,hI,hL⟩:=aJ.ex (P:=Tp) (k:=0) (b:=sub (cd Tryz.f93) [1,1,1,1,1,1,1,0,1,0,0]) (e := .exit 0) (fun i (o:List Int)=>kH dl sk dc o.length (o.map aA) i) (fun o=>kH dl sk dc o.length (o.map aA) (aB sk).length)
  (fun i o=>o=((List.range i).filter (aOv dl (aB sk) (aB dc))).map fun i=>((aB sk).getD i []).getD 0 0) (by simp) (aB sk).length
  (fun i o hi hoE=>by
   obtain ⟨y0,y1,hy⟩:=at2 h1 hi;have hat:=vW (dl:=dl) (dc:=aB dc) hy;have hlen:o.length≤i:=by
    rw [hoE,kQ9];have:=uZ (aOv dl (aB sk) (aB dc)) (List.range i);simpa using this
   have hmb:aOv dl (aB sk) (aB dc) i=aHl (gL (aX dl (aB sk) (aB dc)) i (iG dl (aB dc) y0 y1 (lC dl (aB dc) y0)).1) ((iG dl (aB dc) y0 y1 (lC dl (aB dc) y0)).1.any fun x=>x.2.1) ((iG dl (aB dc) y0 y1 (lC dl (aB dc) y0)).1.any fun x => !x.2.1):=by
    unfold aOv;rw [hat];rfl
   have hal:(aX dl (aB sk) (aB dc)).length≤1000:=by rw [xH];omega
   have hc:=aCp (s0:=y0) (s1:=y1) y0 ho;have hg:((aB sk).getD i []).getD 0 0=y0:=by simp [kQ4,hy]
   cases hb:aOv dl (aB sk) (aB dc) i with
   | true =>
    refine ⟨o++[y0],?_,aWu (by omega) hy h1 hat hal hc (by rw [← hb,hmb];rfl) ⟨rfl,by omega⟩ (aP (by omega)) (by simp) (by simp) rfl⟩
    rw [hoE,List.range_succ,nG,hZ];simp only [List.filter_cons,hb,if_true,List.filter_nil,iJ,List.map_nil,hg]
   | false =>
    refine ⟨o,?_,aWv (by omega) hy h1 hat hal hc (by rw [← hb,hmb];rfl) (aP (by omega)) rfl⟩
    rw [hoE,List.range_succ,nG,hZ];simp [List.filter_cons,hb])
  (fun o _=>aWw (by omega)) (acc:=[]) (by simp)
 have e:o=aWq dl (aB sk) (aB dc):=hI;rw [← e];exact bQh h hf ho hL
end
section

end
section

theorem aDe{α:Type}{Q:List α→Prop}(h0:Q [])(hs:∀ l x,Q l→Q (l++[x]))(l:List α):Q l:=by
 have key:∀ r:List α,Q r.reverse:=fun r=>by
  induction r with
  | nil=>exact h0
  | cons a r ih=>rw [List.reverse_cons];exact hs _ _ ih
 have:=key l.reverse
 rwa [List.reverse_reverse] at this
def mL(L:Lqq)(t:Int):Nat:=(L.filter fun x=>decide (x.getD 2 0<t)).length
theorem aGe(L:Lqq)(x:List Int)(t:Int):mL (L++[x]) t=mL L t+if x.getD 2 0<t then 1 else 0:=by
 unfold mL;rw [nG,lG]
 congr 1
 by_cases h:x.getD 2 0<t
 ·rw [if_pos h,List.filter_cons,if_pos (decide_eq_true h)];rfl
 ·rw [if_neg h,List.filter_cons,if_neg (by rw [decide_eq_false h];simp)];rfl
theorem bIk(L:Lqq):L.Pairwise (fun a b=>a.getD 2 0≤b.getD 2 0)→jC L=L.map fun x=>[x.getD 0 0,(mL L (x.getD 2 0):Int)+1,x.getD 2 0]:=by
 refine aDe (Q:=fun L=>L.Pairwise (fun a b=>a.getD 2 0≤b.getD 2 0)→jC L=L.map fun x=>[x.getD 0 0,(mL L (x.getD 2 0):Int)+1,x.getD 2 0]) (fun _=>rfl) (fun l x ih hp => ?_) L
 obtain ⟨h1,_,h3⟩:=List.pairwise_append.1 hp;have h4:∀ a∈l,a.getD 2 0≤x.getD 2 0:=fun a ha=>h3 a ha x (by simp)
 have e:jC (l++[x])=jC l++[[x.getD 0 0,plN (jC l) (x.getD 2 0),x.getD 2 0]]:=by
  unfold jC;rw [aHe];rfl
 rw [e,ih h1,hZ]
 congr 1
 ·refine wL fun y hy => ?_
  rw [aGe,if_neg (by have:=h4 y hy;omega)];rfl
 ·have hx:mL (l++[x]) (x.getD 2 0)=mL l (x.getD 2 0):=by rw [aGe,if_neg (by omega)];rfl
  show [[x.getD 0 0,plN _ (x.getD 2 0),x.getD 2 0]]=[[x.getD 0 0,(mL (l++[x]) (x.getD 2 0):Int)+1,x.getD 2 0]];rw [hx]
  congr 3
  rcases List.eq_nil_or_concat l with rfl | ⟨m,y,rfl⟩
  ·rfl
  ·rw [List.concat_eq_append] at *
   unfold plN;rw [hZ,iJ,List.map_nil,List.getLast?_concat];show (if y.getD 2 0=x.getD 2 0 then (mL (m++[y]) (y.getD 2 0):Int)+1 else _)=_
   by_cases hc:y.getD 2 0=x.getD 2 0
   ·rw [if_pos hc,hc]
   ·rw [if_neg hc]
    have h5:=h4 y (by simp)
    have h6:mL (m++[y]) (x.getD 2 0)=(m++[y]).length:=by
     unfold mL;rw [List.filter_eq_self.2];intro a ha;refine decide_eq_true ?_
     rcases iI.1 ha with ha | ha
     ·have:=(List.pairwise_append.1 h1).2.2 a ha y (by simp)
      omega
     ·obtain rfl:a=y:=by simpa using ha
      omega
    rw [h6];simp
section
variable {dl:Int} {oc:List Int} {sk dc:Lqq}
def bXx(a b:List Int):Prop:=(b.getD 1 0 = -1→a.getD 1 0 = -1→a.getD 0 0<b.getD 0 0)∧(b.getD 1 0 ≠ -1→a.getD 1 0 ≠ -1∧a.getD 2 0≤b.getD 2 0∧(a.getD 2 0=b.getD 2 0→a.getD 0 0<b.getD 0 0))
def inL(t:Int)(y:List Int):Bool:=decide (y.getD 1 0 ≠ -1∧y.getD 2 0<t)
theorem bIl(hs:sk.Pairwise fun a b=>a.getD 0 0<b.getD 0 0) :
  (bY dl oc dc sk).Pairwise bXx ∧
  (∀ y∈bY dl oc dc sk,y.getD 1 0 ≠ -1→y.getD 1 0=1+(((bY dl oc dc sk).filter (inL (y.getD 2 0))).length:Int)) ∧
  (∀ y∈bY dl oc dc sk,∃ s∈sk,s.getD 0 0=y.getD 0 0∧dJ dl oc dc (sB s) (sT s)=(y.getD 2 0,decide (y.getD 1 0 = -1))):=by
 have hI0:(gI dl oc dc sk).Pairwise fun a b=>a.getD 0 0<b.getD 0 0:=by
  unfold gI;rw [List.pairwise_map];exact (hs.sublist List.filter_sublist)
 have hO:(fE dl oc dc sk).Pairwise fun a b=>a.getD 0 0<b.getD 0 0:=by
  unfold fE;rw [List.pairwise_map];exact (hs.sublist List.filter_sublist)
 have s1:=aIq (f:=fun x:List Int=>x.getD 2 0) (fun x y=>bGt 2 x y) (gI dl oc dc sk)
 have s2:=aIr (f:=fun x:List Int=>x.getD 2 0) (g:=fun x:List Int=>x.getD 0 0) (fun x y=>bGt 2 x y) (gI dl oc dc sk) hI0
 have hpl:=bIk _ s1;have hmI:∀ x,x∈isort (ltK 2) (gI dl oc dc sk)→x∈gI dl oc dc sk:=fun x hx=>(xC _ _ x).1 hx
 have e:bY dl oc dc sk=((isort (ltK 2) (gI dl oc dc sk)).map fun x=>[x.getD 0 0,(mL (isort (ltK 2) (gI dl oc dc sk)) (x.getD 2 0):Int)+1,x.getD 2 0])++fE dl oc dc sk:=by
  unfold bY;rw [hpl]
 generalize isort (ltK 2) (gI dl oc dc sk)=I at s1 s2 hmI e
 have o1:∀ y∈fE dl oc dc sk,y.getD 1 0 = -1:=fun y hy=>by
  unfold fE at hy
  obtain ⟨s,_,rfl⟩:=dF.1 hy;rfl
 refine ⟨?_,?_,?_⟩
 ·rw [e]
  refine List.pairwise_append.2 ⟨?_,?_,?_⟩
  ·rw [List.pairwise_map]
   refine s2.imp fun {a b} h => ?_
   refine ⟨fun h1=>absurd h1 ?_,fun _=>⟨?_,?_,?_⟩⟩
   ·show (mL I (b.getD 2 0):Int)+1 ≠ -1
    omega
   ·show (mL I (a.getD 2 0):Int)+1 ≠ -1
    omega
   ·show a.getD 2 0≤b.getD 2 0
    omega
   ·show a.getD 2 0=b.getD 2 0→a.getD 0 0<b.getD 0 0
    omega
  ·refine hO.imp_of_mem fun {a b} ha hb h=>⟨fun _ _=>h,fun h1=>absurd (o1 b hb) h1⟩
  ·intro a ha b hb
   obtain ⟨x,_,rfl⟩:=dF.1 ha;refine ⟨fun _ h1=>absurd h1 ?_,fun h1=>absurd (o1 b hb) h1⟩
   show (mL I (x.getD 2 0):Int)+1 ≠ -1;omega
 ·have hc:∀ t,((bY dl oc dc sk).filter (inL t)).length=mL I t:=fun t=>by
   rw [e,nG,lG];have z:(fE dl oc dc sk).filter (inL t)=[]:=by
    rw [List.filter_eq_nil_iff];intro y hy;unfold inL;rw [o1 y hy];simp
   rw [z,List.filter_map,kQ9];unfold mL;rw [List.length_nil,Nat.add_zero]
   congr 1
   refine List.filter_congr fun x _ => ?_
   show decide ((mL I (x.getD 2 0):Int)+1 ≠ -1∧x.getD 2 0<t)=decide (x.getD 2 0<t)
   by_cases hx:x.getD 2 0<t
   ·rw [decide_eq_true hx,decide_eq_true ⟨by omega,hx⟩]
   ·rw [decide_eq_false hx,decide_eq_false fun h=>hx h.2]
  intro y hy h1;rw [hc];rw [e] at hy
  rcases iI.1 hy with hy | hy
  ·obtain ⟨x,_,rfl⟩:=dF.1 hy
   show (mL I (x.getD 2 0):Int)+1=1+(mL I (x.getD 2 0):Int);omega
  ·exact absurd (o1 y hy) h1
 ·intro y hy
  rw [e] at hy
  rcases iI.1 hy with hy | hy
  ·obtain ⟨x,hx,rfl⟩:=dF.1 hy
   have hx':=hmI x hx;unfold gI at hx'
   obtain ⟨s,hs',rfl⟩:=dF.1 hx';obtain ⟨m1,m2⟩:=vB.1 hs';refine ⟨s,m1,rfl,?_⟩;have m3:(dJ dl oc dc (sB s) (sT s)).2=false:=by simpa using m2
   have m4:(decide ((mL I (dJ dl oc dc (sB s) (sT s)).1:Int)+1 = -1))=false:=decide_eq_false (by omega)
   show dJ dl oc dc (sB s) (sT s)=((dJ dl oc dc (sB s) (sT s)).1,decide ((mL I (dJ dl oc dc (sB s) (sT s)).1:Int)+1 = -1));rw [m4];exact Prod.ext rfl m3
  ·unfold fE at hy
   obtain ⟨s,hs',rfl⟩:=dF.1 hy;obtain ⟨m1,m2⟩:=vB.1 hs';refine ⟨s,m1,rfl,?_⟩;show dJ dl oc dc (sB s) (sT s)=(0,true);unfold dJ at m2 ⊢
   split at m2
   ·rename_i h;rw [if_pos h]
   ·cases m2
end
theorem bWz{sk:Lqq}(hn:(aL sk 0).Nodup){s:List Int}(hs:s∈sk):∃ i:Nat,aHs sk (s.getD 0 0)=(i:Int)∧sk[i]? = some s:=by
 rcases aXv sk (s.getD 0 0) with ⟨i,x,h1,h2,h3⟩ | ⟨_,h2⟩
 ·exact ⟨i,h1,by rw [h2,aTn hn (kQ5 h2) hs h3]⟩
 ·exact absurd (dF.2 ⟨s,hs,rfl⟩) h2
end
section
section
variable {dl:Int} {oc:List Int} {D:Lqq} {x:List Int}
theorem pQ{α β:Type}(f g:β→α→β):∀ (l:List α) (b:β),(∀ x∈l,∀ b,f b x=g b x)→l.foldl f b=l.foldl g b
 | [],_,_=>rfl
 | x::l,b,h=>by
  rw [sG,sG,h x (gZ ..),pQ f g l _ fun y hy=>h y (kQ6 _ hy)]
end
end
section
section
variable {dl:Int} {oc:List Int} {D:Lqq} {x:List Int}
end
theorem bIj{dl:Int}{D:Lqq}{u:List Int}(hd:D.Pairwise fun a b=>dN a<dN b)(hu:u.Sublist (aI dl D)):aJk dl D u=0:=by
 have h1:(aI dl D).Pairwise (· < ·):=by
  unfold aI;rw [List.pairwise_map];exact hd.sublist List.filter_sublist
 have h2:=h1.sublist hu;unfold aJk;rw [if_pos (fV.2 fun n hn=>by
  unfold ocB;rw [List.contains_iff_mem];exact hu.subset hn),if_pos]
 unfold rK;rw [fV];intro i hi;have hi:=nH.1 hi
 rcases Nat.eq_zero_or_pos i with rfl | h0
 ·rfl
 ·rw [aBh]
  refine .inr (decide_eq_true ?_);have:=List.pairwise_iff_getElem.1 h2 (i-1) i (by omega) hi (by omega)
  rw [kQ4,kQ4,kQ0 hi,kQ0 (show i-1<u.length by omega)]
  exact this
theorem bCj{dl:Int}{sk dc:Lqq}(h:bQ dl sk dc):(aB sk).Pairwise fun a b=>a.getD 0 0<b.getD 0 0:=by
 have h1:=pN sk;have h2:(aB sk).Pairwise fun a b=>a.getD 0 0≠b.getD 0 0:=by
  have:=yL h.ns;unfold aL at this
  exact List.pairwise_map.1 this
 exact (h1.and h2).imp fun {a b} h=>by have:=h.1;have:=h.2;omega
end
section
theorem aGd{α:Type}{p q:α→Bool}:∀ {l:List α},(∀ s∈l,p s=false→q s=false)→(l.filter p).find? q=l.find? q
 | [],_=>rfl
 | a::l,h=>by
  have ih:=aGd (p:=p) (q:=q) (l:=l) fun s hs=>h s (kQ6 _ hs)
  cases hp:p a with
  | true=>rw [List.filter_cons_of_pos hp,List.find?_cons,List.find?_cons,ih]
  | false=>rw [List.filter_cons_of_neg (by rw [hp];exact Bool.false_ne_true),List.find?_cons_of_neg (by rw [h a (gZ ..) hp];exact Bool.false_ne_true),ih]
section
variable {dl:Int} {oc:List Int} {R:List Int→Bool}
end
theorem bWy{dl:Int}{oc:List Int}{L:Lqq}{s:DS}(h:s∈eC dl oc L):s.x∈L:=by
 have:s.x∈(eC dl oc L).map (·.x):=dF.2 ⟨s,h,rfl⟩
 rwa [aIf] at this
end
section
section
variable {dl:Int} {oc oc':List Int}
theorem bIe{y:List Int}{t:List DS}(h:oc.contains (dN y)=oc'.contains (dN y)):mkS dl oc y t=mkS dl oc' y t:=by
 unfold mkS;rw [h]
theorem bIf:∀ {L:Lqq},(∀ y∈L,oc.contains (dN y)=oc'.contains (dN y))→eC dl oc L=eC dl oc' L
 | [],_=>rfl
 | y::L,h=>by
  rw [eC,eC,bIf fun z hz=>h z (kQ6 _ hz),bIe (h y (gZ ..))]
end
section
variable {dl:Int} {oc oc':List Int} {F:List Int→Int}
theorem aUk{b:Int}:∀ {L:Lqq},bZ L→(∀ s∈L,∀ y∈L,dAb s=dN y→F s=F y)→(∀ y∈L,F y≠b→oc.contains (dN y)=oc'.contains (dN y))→(eC dl oc L).filter (fun s=>decide (F s.x≠b))=(eC dl oc' L).filter (fun s=>decide (F s.x≠b))
 | [],_,_,_=>rfl
 | y::L,hd,hF,ho=>by
  have ih:=aUk (b:=b) hd.tail (fun s hs z hz=>hF s (kQ6 _ hs) z (kQ6 _ hz)) fun z hz=>ho z (kQ6 _ hz)
  have ex:∀ q,(mkS dl q y (eC dl q L)).x=y:=fun _=>rfl
  by_cases hy:F y=b
  ·rw [eC,eC,List.filter_cons_of_neg (by rw [ex];simpa using hy),List.filter_cons_of_neg (by rw [ex];simpa using hy),ih]
  ·rw [eC,eC,List.filter_cons_of_pos (by rw [ex];simpa using hy),List.filter_cons_of_pos (by rw [ex];simpa using hy),ih]
   congr 1
   have key:∀ q,iY (eC dl q L) (dN y)=iY ((eC dl q L).filter fun s=>decide (F s.x≠b)) (dN y):=fun q=>by
    unfold iY;rw [← List.filter_reverse,List.filter_filter];refine List.filter_congr fun s hs => ?_
    cases e:dAb s.x == dN y with
    | false=>rfl
    | true =>
     have e:dAb s.x=dN y:=by simpa using e
     have:=hF s.x (kQ6 _ (bWy (yY.1 hs))) y (gZ ..) e;rw [this,decide_eq_true hy];rfl
   have e:iY (eC dl oc L) (dN y)=iY (eC dl oc' L) (dN y):=by rw [key,key,ih]
   unfold mkS;rw [e,ho y (gZ ..) hy]
theorem bOv{b:Int}{L:Lqq}(hd:bZ L)(hF:∀ s∈L,∀ y∈L,dAb s=dN y→F s=F y)(ho:∀ y∈L,F y≠b→oc.contains (dN y)=oc'.contains (dN y)){y:List Int}(hm:y∈L)(hy:F y≠b):stF dl oc L y=stF dl oc' L y:=by
 have h:=aUk (dl:=dl) hd hF ho;have key:∀ q,(eC dl q L).find? (fun s=>s.x == y)=((eC dl q L).filter fun s=>decide (F s.x≠b)).find? (fun s=>s.x == y):=fun q=>(aGd fun s _ hs=>by
  cases e:s.x == y with
  | false=>rfl
  | true =>
   have e:s.x=y:=by simpa using e
   rw [e,decide_eq_true hy] at hs
   cases hs).symm
 have hs:∀ q,((eC dl q L).find? fun s=>s.x == y).isSome=true:=fun q=>by
  rw [List.find?_isSome];have hm:=hm;rw [← aIf dl q L] at hm
  obtain ⟨s,h1,h2⟩:=dF.1 hm;exact ⟨s,h1,by rw [h2];exact beq_self_eq_true y⟩
 have e:(eC dl oc L).find? (fun s=>s.x == y)=(eC dl oc' L).find? (fun s=>s.x == y):=by rw [key oc,key oc',h]
 obtain ⟨s,hs1⟩:=Option.isSome_iff_exists.1 (hs oc);unfold stF;rw [← e,hs1];rfl
theorem bIg{b:Int}{L:Lqq}(hd:bZ L)(hF:∀ s∈L,∀ y∈L,dAb s=dN y→F s=F y)(hB:∀ y∈L,dK y≤4→F y=dB y)(ho:∀ y∈L,F y≠b→oc.contains (dN y)=oc'.contains (dN y)){c t:Int}(hc:c≠b):aDs dl oc L c t=aDs dl oc' L c t:=by
 unfold aDs;refine pQ _ _ _ _ fun y hy a => ?_
 unfold wR aLt
 by_cases h4:dK y≤4
 ·by_cases hb:dB y=c
  ·have hy2:F y≠b:=by rw [hB y hy h4,hb];exact hc
   unfold dQ aBx nA;rw [bOv hd hF ho hy hy2]
  ·rw [show (dB y == c)=false by simpa using hb];simp
 ·rw [decide_eq_false h4];simp
end
section
variable {dc:Lqq}
theorem aDd(hd:bZ dc):∀ (k:Nat) (x:List Int),x∈dc→dN x<(k:Int)→kZ dc k x=kZ dc (k+1) x
 | 0,x,hx,hk=>by have:=dS hd hx;omega
 | k+1,x,hx,hk=>by
  unfold kZ
  by_cases h4:dK x≤4
  ·rw [if_pos h4,if_pos h4]
  ·rw [if_neg h4,if_neg h4]
   cases h:ofN dc (dAb x) with
   | none=>rfl
   | some y =>
    obtain ⟨h1,h2⟩:=mA h;have ho:=hd.ord _ hx;unfold orB at ho
    rw [if_neg (show ¬ x.getD 1 0≤4 from h4)] at ho
    have ho2:=cN.1 ho;have h3:dAb x≤dN x-1:=ho2.2;exact aDd hd k y h1 (by omega)
theorem aSf(hd:bZ dc){s y:List Int}(hs:s∈dc)(hy:y∈dc)(e:dAb s=dN y):eO dc s=eO dc y:=by
 have hk:¬ dK s≤4:=fun h4=>by
  have ho:=hd.ord _ hs;unfold orB at ho
  rw [if_pos (show s.getD 1 0≤4 from h4)] at ho
  have h0:dAb s=0:=by simpa using ho
  have:=dS hd hy;omega
 unfold eO;have e1:kZ dc (10000+1) s=kZ dc 10000 y:=by
  conv=>lhs;unfold kZ
  rw [if_neg hk,e,rY hd hy]
 rw [e1];exact aDd hd 10000 y hy (by have:=dS hd hy;omega)
theorem bIh{y:List Int}(h:dK y≤4):eO dc y=dB y:=by
 unfold eO kZ;rw [if_pos h]
theorem bIi{dl:Int}{oc oc':List Int}(hd:bZ dc){x:List Int}(hx:x∈dc)(ho:∀ m,m≠dN x→oc.contains m=oc'.contains m){c t:Int}(hc:c≠eO dc x):dJ dl oc dc c t=dJ dl oc' dc c t:=by
 unfold dJ;rw [bIg (F:=eO dc) (b:=eO dc x) hd (fun s hs y hy e=>aSf hd hs hy e) (fun y hy h4=>bIh h4) (fun y hy hF=>ho _ fun e=>hF (by rw [vE hd hy hx e])) hc]
end
end
section
theorem bOr{s k j:Nat}(h:j<k):(s+2 ^ k) / 2 ^ j % 2=s / 2 ^ j % 2:=by
 obtain ⟨m,rfl⟩:∃ m,k=j+(m+1):=⟨k-j-1,by omega⟩
 have e:2 ^ (j+(m+1))=2 ^ j*(2*2 ^ m):=by rw [Nat.pow_add,Nat.pow_succ,bEa (2 ^ m) 2]
 rw [e,Nat.add_mul_div_left _ _ (Nat.two_pow_pos j)];omega
theorem bOs{s k:Nat}(h:s<2 ^ k):(s+2 ^ k) / 2 ^ k % 2=1:=by
 rw [Nat.add_div_right _ (Nat.two_pow_pos k),Nat.div_eq_of_lt h]
theorem bIa{s k:Nat}(h:s<2 ^ k):s / 2 ^ k % 2=0:=by
 rw [Nat.div_eq_of_lt h]
theorem sF(q:List Int)(s k:Nat):eR q s (k+1)=eR q s k++(if s / 2 ^ k % 2 == 1 then [q.getD k 0] else []):=by
 unfold eR;rw [List.range_succ,nG,hZ]
 congr 1
 by_cases h:(s / 2 ^ k % 2 == 1)=true
 ·rw [if_pos h,List.filter_cons_of_pos (p:=fun j=>s / 2 ^ j % 2 == 1) h];rfl
 ·rw [if_neg h,List.filter_cons_of_neg (p:=fun j=>s / 2 ^ j % 2 == 1) h];rfl
theorem uA(q r:List Int)(s s':Nat):∀ k,k≤q.length→(∀ j,j<k→s / 2 ^ j % 2=s' / 2 ^ j % 2)→eR (q++r) s k=eR q s' k
 | 0,_,_=>rfl
 | k+1,hk,h=>by
  rw [sF,sF,uA q r s s' k (by omega) (fun j hj=>h j (by omega)),h k (by omega)]
  congr 2
  rw [kQ4,kQ4,yW (by omega)]
theorem bOt{n:Int}{u:List Int}(h:u.Sublist [n]):u=[]∨u=[n]:=by
 cases u with
 | nil=>exact .inl rfl
 | cons a t =>
  have hl:=h.length_le;rw [pY,List.length_singleton] at hl
  have ht:t=[]:=aBg (by omega)
  have ha:a=n:=List.mem_singleton.1 (h.subset (gZ ..));rw [ht,ha];exact .inr rfl
theorem bIb(q:List Int):∀ u:List Int,u.Sublist q→u∈fG q:=by
 refine aDe (Q:=fun q=>∀ u:List Int,u.Sublist q→u∈fG q) ?_ ?_ q
 ·intro u hu
  rw [List.sublist_nil.1 hu];exact gZ ..
 ·intro q n ih u hu
  obtain ⟨u1,u2,rfl,h1,h2⟩:=List.sublist_append_iff.1 hu;obtain ⟨s,hs,e⟩:=dF.1 (ih u1 h1);have hs:s<2 ^ q.length:=nH.1 hs;have hl:(q++[n]).length=q.length+1:=by simp
  have hg:(q++[n]).getD q.length 0=n:=by rw [kQ4,yV (by omega)];simp
  unfold fG;rw [hl]
  rcases bOt h2 with rfl | rfl
  ·refine dF.2 ⟨s,nH.2 (by rw [Nat.pow_succ];omega),?_⟩
   rw [sF,uA q [n] s s q.length (dO _) (fun _ _=>rfl),e,bIa hs]
   rfl
  ·refine dF.2 ⟨s+2 ^ q.length,nH.2 (by rw [Nat.pow_succ];omega),?_⟩
   rw [sF,uA q [n] (s+2 ^ q.length) s q.length (dO _) (fun j hj=>bOr hj),e,bOs hs,hg]
   rfl
section
variable {dl:Int} {sk dc:Lqq}
theorem bOu{oc oc':List Int}{D:Lqq}(h:∀ m,oc.contains m=oc'.contains m)(b t:Int):dJ dl oc D b t=dJ dl oc' D b t:=by
 have e:eC dl oc D=eC dl oc' D:=bIf fun y _=>h _
 have es:∀ y,stF dl oc D y=stF dl oc' D y:=fun y=>by
  unfold stF;rw [e,bIe (h (dN y))]
 unfold dJ aDs;have:D.foldl (wR dl oc D b) (t == -1,t)=D.foldl (wR dl oc' D b) (t == -1,t):=pQ _ _ _ _ fun y hy a=>by
  unfold wR aLt dQ aBx nA;rw [es]
 rw [this]
theorem bIc{oc oc':List Int}{D S:Lqq}(h:∀ s∈S,dJ dl oc D (sB s) (sT s)=dJ dl oc' D (sB s) (sT s)):bY dl oc D S=bY dl oc' D S:=by
 have e1:S.filter (fun s => !(dJ dl oc D (sB s) (sT s)).2)=S.filter (fun s => !(dJ dl oc' D (sB s) (sT s)).2):=List.filter_congr fun s hs=>by rw [h s hs]
 have e2:S.filter (fun s=>(dJ dl oc D (sB s) (sT s)).2)=S.filter (fun s=>(dJ dl oc' D (sB s) (sT s)).2):=List.filter_congr fun s hs=>by rw [h s hs]
 have e3:gI dl oc D S=gI dl oc' D S:=by
  unfold gI;rw [e1];exact wL fun s hs=>by rw [h s (vB.1 hs).1]
 have e4:fE dl oc D S=fE dl oc' D S:=by
  unfold fE;rw [e2]
 unfold bY;rw [e3,e4]
theorem bCi(u:List Int)(n m:Int):m≠n→u.contains m=(u++[n]).contains m:=fun h=>by
 rw [Bool.eq_iff_iff,List.contains_iff_mem,List.contains_iff_mem,iI,List.mem_singleton];exact ⟨.inl,fun q=>q.resolve_right h⟩
theorem aUj(hr:bQ dl sk dc){x:List Int}(hx:x∈aB dc)(ho:dN x∈aI dl (aB dc))(h8:(aI dl (aB dc)).length≤8)(hm:(jX dl sk dc (dN x)).1=false){u:List Int}(hu:u.Sublist ((aI dl (aB dc)).filter fun n => !(n == dN x))){s:List Int}(hs:s∈aB sk):dJ dl u (aB dc) (sB s) (sT s)=dJ dl (u++[dN x]) (aB dc) (sB s) (sT s):=by
 have hd:=eF hr;have hsb:zC (aB dc) (dN x)=eO (aB dc) x:=by unfold zC;rw [rY hd hx]
 by_cases hc:sB s=eO (aB dc) x
 ·unfold jX at hm
  have hco:(aI dl (aB dc)).contains (dN x)=true:=List.contains_iff_mem.2 ho;rw [if_neg (by rw [hco];simp),if_neg (by omega),hsb] at hm
  obtain ⟨j,hj,rfl⟩:=List.getElem_of_mem hs;have hcol:(aL (aB sk) 0)[j]? = some (sB (aB sk)[j]):=by
   unfold aL;rw [iH,kQ0 hj];rfl
  have hpos:=bWz (sk:=aB sk) (yL hr.ns) hs;obtain ⟨i,hi,hs'⟩:=hpos;have hi:bC (fun x=>decide (sB (aB sk)[j]=x)) (aL (aB sk) 0)=(i:Int):=hi
  rw [← hc,hi,if_neg (by omega)] at hm
  have hm:((fG ((aI dl (aB dc)).filter fun n => !(n == dN x))).any (zD dl sk dc (dN x) (sB (aB sk)[j])))=false:=hm
  have:=List.any_eq_false.1 hm u (bIb _ u hu);unfold zD at this
  have hT:∀ q,eV dl sk dc (sB (aB sk)[j]) q=dJ dl q (aB dc) (sB (aB sk)[j]) (sT (aB sk)[j]):=fun q=>by
   have hg:(aB sk).getD i []=(aB sk)[j]:=by rw [kQ4,hs'];rfl
   unfold eV;rw [hi,bDz,hg]
  rw [hT,hT] at this
  simp only [Bool.not_eq_true,Bool.not_eq_false',kQ7,beq_iff_eq] at this
  exact Prod.ext this.1 this.2
 ·exact bIi hd hx (fun m hm=>bCi u (dN x) m hm) hc
theorem bId(hr:bQ dl sk dc)(h8:(aI dl (aB dc)).length≤8)(hm:∀ n∈aI dl (aB dc),(jX dl sk dc n).1=false){s:List Int}(hs:s∈aB sk):∀ u:List Int,u.Sublist (aI dl (aB dc))→dJ dl u (aB dc) (sB s) (sT s)=dJ dl [] (aB dc) (sB s) (sT s):=by
 have hd:=eF hr;have hnd:(aI dl (aB dc)).Nodup:=by
  have:(aI dl (aB dc)).Pairwise (· < ·):=by
   unfold aI;rw [List.pairwise_map];exact hd.up.sublist List.filter_sublist
  exact this.imp fun {a b} q e=>by omega
 refine fun u=>aDe (Q:=fun u=>u.Sublist (aI dl (aB dc))→dJ dl u (aB dc) (sB s) (sT s)=dJ dl [] (aB dc) (sB s) (sT s)) (fun _=>rfl) ?_ u
 intro u n ih hu;have hu1:u.Sublist (aI dl (aB dc)):=(List.sublist_append_left u [n]).trans hu;have hn:n∈aI dl (aB dc):=hu.subset (by simp)
 have hnu:(u++[n]).Nodup:=hnd.sublist hu;have hnn:n∉u:=fun q=>(List.nodup_append.1 hnu).2.2 n q n (by simp) rfl
 have hn2:=hn;unfold aI at hn2
 obtain ⟨x,hx,rfl⟩:=dF.1 hn2;have hx:=(vB.1 hx).1;have hf:u.Sublist ((aI dl (aB dc)).filter fun n => !(n == dN x)):=by
  have:=hu1.filter fun n => !(n == dN x)
  rwa [List.filter_eq_self.2 fun m hm=>by
   have:m≠dN x:=fun e=>hnn (e ▸ hm)
   simpa using this] at this
 rw [← aUj hr hx hn h8 (hm _ hn) hf hs];exact ih hu1
end
end
section

end
section

end
section
theorem aJl{dl:Int}{oc:List Int}{D:Lqq}{b:Int}(hd:bZ D):∀ (l:Lqq) (o:Bool) (t:Int),(∀ x∈l,x∈D)→(l.foldl (wR dl oc D b) (o,t)).2≤t+43200000*(l.length:Int)
 | [],o,t,_=>by simp
 | x::l,o,t,h=>by
  have hm:=aTf (dl:=dl) (oc:=oc) hd (h x (gZ ..));have hl:=fun y hy=>h y (kQ6 _ hy)
  rw [sG,pY];unfold wR;dsimp only
  by_cases hh:aLt dl oc D b x=true
  ·rw [if_pos hh]
   have ih:=aJl (dl:=dl) (oc:=oc) (b:=b) hd l (o || dK x == 3) (byI (dK x) t (nA dl oc D x)) hl
   unfold wR at ih
   have:byI (dK x) t (nA dl oc D x)≤t+43200000:=by unfold byI;repeat' split <;> omega
   omega
  ·rw [if_neg hh]
   have ih:=aJl (dl:=dl) (oc:=oc) (b:=b) hd l o t hl;unfold wR at ih
   omega
theorem bOw{dl:Int}{oc:List Int}{D:Lqq}{b t:Int}(hd:bZ D)(ht:t≤360000):0≤(dJ dl oc D b t).1∧(dJ dl oc D b t).1≤100000000000:=by
 have h:=aJl (dl:=dl) (oc:=oc) (b:=b) hd D (t == -1) t fun _ h=>h
 have hl:=hd.len;have h2:(aDs dl oc D b t).2≤t+43200000*(D.length:Int):=h;unfold dJ
 split
 ·exact ⟨by simp,by simp⟩
 ·show 0≤max 0 (aDs dl oc D b t).2∧max 0 (aDs dl oc D b t).2≤100000000000
  omega
end
section
theorem bHx{q u:List Int}(h:u∈fG q):u.Sublist q:=by
 obtain ⟨s,_,rfl⟩:=dF.1 h;have e:((List.range q.length).map fun j=>q.getD j 0)=q:=by
  apply List.ext_getElem (by simp)
  intro i h1 h2;simp [kQ4,kQ0 h2]
 have h2:(eR q s q.length).Sublist ((List.range q.length).map fun j=>q.getD j 0):=by
  unfold eR;exact List.filter_sublist.map _
 rwa [e] at h2
theorem aMy{l:List Int}{k:Int}(h:∀ y∈l,y=k):(Lib.compact l).length<2:=by
 unfold Lib.compact Lib.compactUpTo;rw [kQ9];have e:(List.range l.length).filter (Lib.keeps l.toArray)=(List.range l.length).filter fun j=>decide (j=0):=List.filter_congr fun j hj=>by
  have hj:=nH.1 hj
  by_cases h0:j=0
  ·subst h0
   rw [Lib.keeps_lt_one _ 0 (by omega)];rfl
  ·have ea:∀ i,i<l.length→l.toArray[i]! = k:=fun i hi=>by
    rw [getElem!_pos l.toArray i (by simpa using hi)]
    exact h _ (by simp)
   rw [Lib.keeps_neg (by omega) (by rw [ea j hj,ea (j-1) (by omega)])]
   simp [h0]
 rw [e];cases l with
 | nil=>decide
 | cons x l =>
  rw [pY,List.range_succ_eq_map,List.filter_cons_of_pos (by rfl),List.filter_eq_nil_iff.2 fun j hj=>by
   obtain ⟨i,_,rfl⟩:=dF.1 hj;simp]
  decide
theorem bHy{l:List bX}{T:Int}(h:∀ x∈l,x.1=T)(hn:l≠[])(hT:T≤far):mnM l=T:=by
 unfold mnM
 suffices H:∀ (l:List bX) (m:Int),(∀ x∈l,x.1=T)→T≤m→(l≠[]∨m=T)→l.foldl (fun m x=>if x.1<m then x.1 else m) m=T from H l far h hT (.inl hn)
 intro l
 induction l with
 | nil=>exact fun m _ _ hm=>hm.resolve_left fun q=>q rfl
 | cons x l ih =>
  intro m hx hm _;rw [sG];have e:(if x.1<m then x.1 else m)=T:=by
   rw [hx x (gZ ..)]
   split <;> omega
  rw [e];exact ih T (fun y hy=>hx y (kQ6 _ hy)) (aDr _) (.inr rfl)
theorem bHz{l:List bX}{T:Int}(h:∀ x∈l,x.1=T)(hn:l≠[])(hT:0≤T):mxM l=T:=by
 unfold mxM
 suffices H:∀ (l:List bX) (m:Int),(∀ x∈l,x.1=T)→m≤T→(l≠[]∨m=T)→l.foldl (fun m x=>if x.1 > m then x.1 else m) m=T from H l 0 h hT (.inl hn)
 intro l
 induction l with
 | nil=>exact fun m _ _ hm=>hm.resolve_left fun q=>q rfl
 | cons x l ih =>
  intro m hx hm _;rw [sG];have e:(if x.1 > m then x.1 else m)=T:=by
   rw [hx x (gZ ..)]
   split <;> omega
  rw [e];exact ih T (fun y hy=>hx y (kQ6 _ hy)) (aDr _) (.inr rfl)
theorem aGc{al:List fD}{s:Nat}{t:Int}(h:∀ x∈al,x.2.1=x.2.2):∀ n,(gH al s t n).1=(gH al s t n).2
 | 0=>rfl
 | n+1=>by
  have ih:=aGc (s:=s) (t:=t) h n;unfold gH
  split
  ·rename_i x hx
   have e:=h x (kQ5 hx)
   split
   ·exact ih
   ·dsimp only
    rw [e,ih]
  ·exact ih
theorem bOp(dl:Int)(dc:Lqq)(b:Int):(lC dl dc b).Sublist (aI dl dc):=List.filter_sublist
section
variable {dl:Int} {sk dc:Lqq}
theorem yR(hr:bQ dl sk dc)(h8:(aI dl (aB dc)).length≤8)(hm:∀ n∈aI dl (aB dc),(jX dl sk dc n).1=false){s:List Int}(hs:s∈aB sk):∀ x∈(iG dl (aB dc) (s.getD 0 0) (s.getD 1 0) (lC dl (aB dc) (s.getD 0 0))).1,x.1=(chM dl (aB dc) (s.getD 0 0) (s.getD 1 0) []).1∧x.2.1=(chM dl (aB dc) (s.getD 0 0) (s.getD 1 0) []).2.1:=fun x hx=>by
 obtain ⟨q,hq,rfl⟩:=dF.1 hx;have e:dJ dl q (aB dc) (s.getD 0 0) (s.getD 1 0)=dJ dl [] (aB dc) (s.getD 0 0) (s.getD 1 0):=bId hr h8 hm hs q ((bHx hq).trans (bOp dl (aB dc) (s.getD 0 0)));unfold chM;rw [e];exact ⟨rfl,rfl⟩
theorem aSe(hr:bQ dl sk dc)(h8:(aI dl (aB dc)).length≤8)(hm:∀ n∈aI dl (aB dc),(jX dl sk dc n).1=false):∀ x∈aX dl (aB sk) (aB dc),x.2.1=x.2.2:=fun x hx=>by
 obtain ⟨s,hs,rfl⟩:=dF.1 hx;obtain ⟨_,_,h3,_⟩:=pP hr;have hb:=bOw (dl:=dl) (oc:=[]) (b:=s.getD 0 0) (eF hr) (h3 s hs).2;have hc:=yR hr h8 hm hs;have hne:(fG (lC dl (aB dc) (s.getD 0 0))).map (chM dl (aB dc) (s.getD 0 0) (s.getD 1 0))≠[]:=fun e=>aIt _ (bJe.1 e)
 have hT:0≤(chM dl (aB dc) (s.getD 0 0) (s.getD 1 0) []).1∧(chM dl (aB dc) (s.getD 0 0) (s.getD 1 0) []).1≤far:=by
  unfold chM;dsimp only
  split
  ·exact ⟨by decide,aDr _⟩
  ·exact ⟨hb.1,Int.le_trans hb.2 (by decide)⟩
 show mnM _=mxM _;exact (bHy (fun x hx=>(hc x hx).1) hne hT.2).trans (bHz (fun x hx=>(hc x hx).1) hne hT.1).symm
theorem bOq(hr:bQ dl sk dc)(h8:(aI dl (aB dc)).length≤8)(hm:∀ n∈aI dl (aB dc),(jX dl sk dc n).1=false){s:List Int}(hs:s∈aB sk)(i:Nat) :
  ((iG dl (aB dc) (s.getD 0 0) (s.getD 1 0) (lC dl (aB dc) (s.getD 0 0))).1.any fun x => !x.2.1)≠((iG dl (aB dc) (s.getD 0 0) (s.getD 1 0) (lC dl (aB dc) (s.getD 0 0))).1.any fun x=>x.2.1) ∧
  (gL (aX dl (aB sk) (aB dc)) i (iG dl (aB dc) (s.getD 0 0) (s.getD 1 0) (lC dl (aB dc) (s.getD 0 0))).1).length<2:=by
 have hc:=yR hr h8 hm hs;have hne:(iG dl (aB dc) (s.getD 0 0) (s.getD 1 0) (lC dl (aB dc) (s.getD 0 0))).1≠[]:=fun e=>aIt _ (bJe.1 e)
 revert hc hne;generalize (iG dl (aB dc) (s.getD 0 0) (s.getD 1 0) (lC dl (aB dc) (s.getD 0 0))).1=c;generalize (chM dl (aB dc) (s.getD 0 0) (s.getD 1 0) []).1=T;generalize (chM dl (aB dc) (s.getD 0 0) (s.getD 1 0) []).2.1=O;intro hc hne;constructor
 ·obtain ⟨x,hx⟩:=List.exists_mem_of_ne_nil c hne
  cases O with
  | true =>
   have h1:(c.any fun x=>x.2.1)=true:=List.any_eq_true.2 ⟨x,hx,(hc x hx).2⟩
   have h2:(c.any fun x => !x.2.1)=false:=List.any_eq_false.2 fun y hy=>by rw [(hc y hy).2];simp
   rw [h1,h2];simp
  | false =>
   have h1:(c.any fun x=>x.2.1)=false:=List.any_eq_false.2 fun y hy=>by rw [(hc y hy).2];simp
   have h2:(c.any fun x => !x.2.1)=true:=List.any_eq_true.2 ⟨x,hx,by rw [(hc x hx).2];rfl⟩
   rw [h1,h2];simp
 ·unfold gL
  refine aMy (k:=(((cQ (aX dl (aB sk) (aB dc)) i T).1+1:Nat):Int)) fun y hy => ?_
  have hy:y∈c.flatMap (chL (aX dl (aB sk) (aB dc)) i):=(List.mergeSort_perm _ _).mem_iff.1 hy;obtain ⟨x,hx,hy⟩:=List.mem_flatMap.1 hy;unfold chL at hy
  obtain ⟨h1,h2⟩:=hc x hx;cases hO:x.2.1 with
  | true=>rw [hO] at hy;simp at hy
  | false =>
   rw [hO,h1] at hy
   have e:=aGc (s:=i) (t:=T) (aSe hr h8 hm) (aX dl (aB sk) (aB dc)).length;unfold aIy at hy
   rw [← e] at hy
   rw [if_neg (by simp)] at hy
   obtain ⟨j,hj,rfl⟩:=dF.1 hy;have hj:j<(cQ (aX dl (aB sk) (aB dc)) i T).1+1-(cQ (aX dl (aB sk) (aB dc)) i T).1:=nH.1 hj;have:j=0:=by omega
   subst this;rfl
end
end
section
variable {dl:Int}{sk dc:Lqq}

noncomputable abbrev tM:Code:=sub (cd Tryz.f9) [1,1,1,1,1,1,0,1,0,0]
noncomputable abbrev aHi:Code:=sub (cd Tryz.f9) [1,1,1,1,1,1,0,1,0,0,1,1,0,0,1,1,1,1,1,1,1,0,0]
theorem gB:((0:Int) != (0:Int))=false:=by first | decide | simp
theorem qV:((0:Int) == (0:Int))=true:=by first | decide | simp
theorem bPv{o0:List Int}(h0:bEh dl sk dc (1:Int) o0)(h1:bQ dl sk dc)(h2:sk.length<20)(h3:uni 3 (bY dl [] (aB dc) (aB sk)))(h4:(bY dl [] (aB dc) (aB sk)).length≤1000)(h5:o0.length≤1000){base:Nat}:FV Tp 34 [(.p (.agg (cF dl sk dc)))] base (.tup [(.p (.sl ((fW (bY dl [] (aB dc) (aB sk)) o0).length) ((fW (bY dl [] (aB dc) (aB sk)) o0).flatten.map aA))),(pI 0)]) []:=by
 exact FV.frz (FMM.fin (k:=0) (g:=⟨[],[],[],[]⟩) rfl Tryz.func34 rfl (o:=[.c (.tup [(.p (aE o0)),(pI 0)]) [],bF,.c (.tup [(.own 2),(pI 0)]) [(2,(.row 48 ((bY dl [] (aB dc) (aB sk)).length) ((bY dl [] (aB dc) (aB sk)).flatten.map aA)))],.g 1 ⟨[],[0,2],[1],[]⟩,.c (.p (.sl ((fW (bY dl [] (aB dc) (aB sk)) o0).length) ((fW (bY dl [] (aB dc) (aB sk)) o0).flatten.map aA))) [(1,.dead)]]) (l:=[FC Tp 97 [(.own 1),(.fn 98 [] [(.rp [(aE o0)] 0)])] [(1,(.row 48 ((bY dl [] (aB dc) (aB sk)).length) ((bY dl [] (aB dc) (aB sk)).flatten.map aA)))] 2 (.p (.sl ((fW (bY dl [] (aB dc) (aB sk)) o0).length) ((fW (bY dl [] (aB dc) (aB sk)) o0).flatten.map aA))) [(1,.dead)],_,_,FC Tp 93 [(.p (.agg (cF dl sk dc))),(pI 1),(.fn 96 [] [])] [] 1 (.tup [(.p (aE o0)),(pI 0)]) []]) (by kernel_rfl) (gc (FMM.fc (ids:=[1]) (bPz (bY dl [] (aB dc) (aB sk)) o0 h3 h4 h5) (by kernel_rfl)) (gc (fk 2 (aJj h1 h2) rfl) (gc gB (gc (FV.fc (h0 _) rfl) gn))))) (by kernel_rfl)
theorem bEd{o:List Int}(h:bQ dl sk dc)(hs:sk.length<20)(hc:bEh dl sk dc 1 o)(ho:o.length≤1000){base:Nat}:FV Tp 34 [.p (.agg (cF dl sk dc))] base (.tup [.p (fS (fW (bY dl [] (aB dc) (aB sk)) o)),.p (aA 0)]) []:=by
 have hl:(bY dl [] (aB dc) (aB sk)).length≤1000:=by rw [aDc,eP];have:=h.len;omega
 exact bPv hc h hs rJ hl ho
theorem aHj{n:Int}{b:Bool}{e:Int}(h:bQ dl sk dc)(hm:jX dl sk dc n=(b,e)){base:Nat}:FV Tp 58 [.p (.agg (cF dl sk dc)),.p (aA n)] base (.tup [.p (blP b),.p (aA e)]) []:=by
 have:=bHs h n (base:=base);rw [hm] at this
 exact this
def gC(l2:List Int)(sk0:Lqq)(dc1:Lqq)(i:Nat)(any:Bool)(m:Int)(t:Int):St:=⟨fr 145 [(5,(.ptr 0 0)),(6,(.ptr 1 0)),(7,(.p (aE (aI (30:Int) (aB dc1))))),(8,(pI 0)),(9,(pB any)),(46,(.p (aE (aI (30:Int) (aB dc1))))),(47,(pI (((aI (30:Int) (aB dc1)).length:Nat):Int))),(48,(pI (i:Int)))],[some (.box 26 [(pI 30),(.p (fS sk0)),(.p (fS dc1))]),some (.box 129 [(.p (.sl l2.length (l2.map aO))),(pI m),(.p (.v (.int .u32 t)))])]⟩
theorem bPw{l1 l2:List Int}{sk0 dc1:Lqq}{m2 t3:Int}(h0:0≤(0:Int)∧(0:Int)≤900)(h1:1≤(5:Int)∧(5:Int)≤30)(h2:0≤(12:Int)∧(12:Int)≤40)(h3:aRp (5:Int) (12:Int) l1 (0:Int) (17:Int)=(sk0,dc1,m2,t3))(h4:bQ (30:Int) sk0 dc1)(h5:(8:Int)<(((aI (30:Int) (aB dc1)).length:Nat):Int))(h6:∀ {base:Nat},FV Tp 26 [] base (pB true) []){base:Nat}:FV Tp 9 [(.p (.sl l1.length (l1.map aO))),(.p (.sl l2.length (l2.map aO)))] base (pB true) []:=by
 exact FV.fin Tryz.func9 rfl (o:=[.c (.ptr 0 0) [(0,(.box 129 [(.p (.sl l1.length (l1.map aO))),(pI 0),(.p (.v (.int .u32 (17:Int))))]))],.c (.p (.agg (cF 30 sk0 dc1))) [(0,(.box 129 [(.p (.sl l1.length (l1.map aO))),(pI m2),(.p (.v (.int .u32 t3)))]))],.c (.ptr 2 0) [(2,(.box 129 [(.p (.sl l2.length (l2.map aO))),(pI 0),(.p (.v (.int .u32 (17:Int))))]))],.c (.tup [(.p (aE (aI (30:Int) (aB dc1)))),(pI 0)]) [],bF,bF,bF,bF,bT,bT,.c (pB true) [],bT]) (l:=[_,FC Tp 26 [] [] 3 (pB true) [],_,_,_,_,_,_,_,FC Tp 17 [(.p (.sl l2.length (l2.map aO)))] [] 2 (.ptr 2 0) [(2,(.box 129 [(.p (.sl l2.length (l2.map aO))),(pI 0),(.p (.v (.int .u32 (17:Int))))]))],FC Tp 16 [(.ptr 0 0),(pI 5),(pI 12)] [(0,(.box 129 [(.p (.sl l1.length (l1.map aO))),(pI 0),(.p (.v (.int .u32 (17:Int))))]))] 1 (.p (.agg (cF 30 sk0 dc1))) [(0,(.box 129 [(.p (.sl l1.length (l1.map aO))),(pI m2),(.p (.v (.int .u32 t3)))]))],FC Tp 17 [(.p (.sl l1.length (l1.map aO)))] [] 0 (.ptr 0 0) [(0,(.box 129 [(.p (.sl l1.length (l1.map aO))),(pI 0),(.p (.v (.int .u32 (17:Int))))]))]]) (by kernel_rfl) (gc qV (gc (FV.fc h6 (by kernel_rfl)) (gc qV (gc (aZ h5) (g4c gB (gc (fk 3 (aBt h4) rfl) (gc (FMM.fc (ids:=[]) (ofO l2) (by kernel_rfl)) (gc (FMM.fc (ids:=[0]) (aRq (5:Int) (12:Int) l1 (0:Int) (17:Int) h0 h1 h2 h3) (by kernel_rfl)) (gc (FMM.fc (ids:=[]) (ofO l1) (by kernel_rfl)) gn)))))))))
theorem bPx{l1 l2:List Int}{sk0 dc1:Lqq}{m2 t3:Int}{i'4:Nat}{any'5:Bool}{m'6 t'7:Int}{o8:List Int}(h0:0≤(0:Int)∧(0:Int)≤900)(h1:1≤(5:Int)∧(5:Int)≤30)(h2:0≤(12:Int)∧(12:Int)≤40)(h3:aRp (5:Int) (12:Int) l1 (0:Int) (17:Int)=(sk0,dc1,m2,t3))(h4:bQ (30:Int) sk0 dc1)(h5:(((aI (30:Int) (aB dc1)).length:Nat):Int)≤8)(hl6:aJ Tp 0 tM (gC l2 sk0 dc1 0 false (0:Int) (17:Int)) (.exit 0) (gC l2 sk0 dc1 i'4 any'5 m'6 t'7))(h7:sk0.length<20)(h8:bEh (30:Int) sk0 dc1 1 o8)(h9:o8.length≤1000)(h10:any'5=true)(h11:∀ {base:Nat},FV Tp 26 [] base (pB true) []){base:Nat}:FV Tp 9 [(.p (.sl l1.length (l1.map aO))),(.p (.sl l2.length (l2.map aO)))] base (pB true) []:=by
 exact FV.fin Tryz.func9 rfl (o:=[.c (.ptr 0 0) [(0,(.box 129 [(.p (.sl l1.length (l1.map aO))),(pI 0),(.p (.v (.int .u32 (17:Int))))]))],.c (.p (.agg (cF 30 sk0 dc1))) [(0,(.box 129 [(.p (.sl l1.length (l1.map aO))),(pI m2),(.p (.v (.int .u32 t3)))]))],.c (.ptr 2 0) [(2,(.box 129 [(.p (.sl l2.length (l2.map aO))),(pI 0),(.p (.v (.int .u32 (17:Int))))]))],.c (.tup [(.p (aE (aI (30:Int) (aB dc1)))),(pI 0)]) [],bF,bF,bF,bF,bF,.k 6 ⟨(rng [(0,5),(10,11),(24,22),(49,69)]),[1,2],[],[(9,0)]⟩ (.exit 0) (gC l2 sk0 dc1 i'4 any'5 m'6 t'7),.c (.tup [(.p (.sl ((fW (bY (30:Int) [] (aB dc1) (aB sk0)) o8).length) ((fW (bY (30:Int) [] (aB dc1) (aB sk0)) o8).flatten.map aA))),(pI 0)]) [],.c (.tup [(.own 2),(pI 0)]) [(2,(.row 48 ((bY (30:Int) [] (aB dc1) (aB sk0)).length) ((bY (30:Int) [] (aB dc1) (aB sk0)).flatten.map aA)))],bT,bT,bT,bT,bT,bT,bT,bT,bT,bT,bT,.c (pB true) []]) (l:=[FC Tp 26 [] [] 3 (pB true) [],_,_,_,_,_,_,_,_,_,_,_,_,_,_,_,_,_,_,_,_,FC Tp 17 [(.p (.sl l2.length (l2.map aO)))] [] 2 (.ptr 2 0) [(2,(.box 129 [(.p (.sl l2.length (l2.map aO))),(pI 0),(.p (.v (.int .u32 (17:Int))))]))],FC Tp 16 [(.ptr 0 0),(pI 5),(pI 12)] [(0,(.box 129 [(.p (.sl l1.length (l1.map aO))),(pI 0),(.p (.v (.int .u32 (17:Int))))]))] 1 (.p (.agg (cF 30 sk0 dc1))) [(0,(.box 129 [(.p (.sl l1.length (l1.map aO))),(pI m2),(.p (.v (.int .u32 t3)))]))],FC Tp 17 [(.p (.sl l1.length (l1.map aO)))] [] 0 (.ptr 0 0) [(0,(.box 129 [(.p (.sl l1.length (l1.map aO))),(pI 0),(.p (.v (.int .u32 (17:Int))))]))]]) (by kernel_rfl) (gc (FV.fc h11 (by kernel_rfl)) (gc qV (gc h10 (gc qV (g3c h10 (g5c qV (gc (fk 2 (aJj h4 h7) rfl) (gc (fk 2 (bEd h4 h7 h8 h9) rfl) (gc hl6.code (gc (bJ h5) (g4c gB (gc (fk 3 (aBt h4) rfl) (gc (FMM.fc (ids:=[]) (ofO l2) (by kernel_rfl)) (gc (FMM.fc (ids:=[0]) (aRq (5:Int) (12:Int) l1 (0:Int) (17:Int) h0 h1 h2 h3) (by kernel_rfl)) (gc (FMM.fc (ids:=[]) (ofO l1) (by kernel_rfl)) gn)))))))))))))))
theorem bPy{l1 l2:List Int}{sk0 dc1:Lqq}{m2 t3:Int}{i'4:Nat}{any'5:Bool}{m'6 t'7:Int}{o8:List Int}(h0:0≤(0:Int)∧(0:Int)≤900)(h1:1≤(5:Int)∧(5:Int)≤30)(h2:0≤(12:Int)∧(12:Int)≤40)(h3:aRp (5:Int) (12:Int) l1 (0:Int) (17:Int)=(sk0,dc1,m2,t3))(h4:bQ (30:Int) sk0 dc1)(h5:(((aI (30:Int) (aB dc1)).length:Nat):Int)≤8)(hl6:aJ Tp 0 tM (gC l2 sk0 dc1 0 false (0:Int) (17:Int)) (.exit 0) (gC l2 sk0 dc1 i'4 any'5 m'6 t'7))(h7:sk0.length<20)(h8:bEh (30:Int) sk0 dc1 1 o8)(h9:o8.length≤1000)(h10:any'5=false)(h11:uni 3 (fW (bY (30:Int) [] (aB dc1) (aB sk0)) o8))(h12:uni 3 (bY (30:Int) [] (aB dc1) (aB sk0)))(h13:(fW (bY (30:Int) [] (aB dc1) (aB sk0)) o8).length≤1000)(h14:(decide ((fW (bY (30:Int) [] (aB dc1) (aB sk0)) o8)=(bY (30:Int) [] (aB dc1) (aB sk0))))=true)(h15:∀ {base:Nat},FV Tp 26 [] base (pB true) []){base:Nat}:FV Tp 9 [(.p (.sl l1.length (l1.map aO))),(.p (.sl l2.length (l2.map aO)))] base (pB true) []:=by
 exact FV.fin Tryz.func9 rfl (o:=[.c (.ptr 0 0) [(0,(.box 129 [(.p (.sl l1.length (l1.map aO))),(pI 0),(.p (.v (.int .u32 (17:Int))))]))],.c (.p (.agg (cF 30 sk0 dc1))) [(0,(.box 129 [(.p (.sl l1.length (l1.map aO))),(pI m2),(.p (.v (.int .u32 t3)))]))],.c (.ptr 2 0) [(2,(.box 129 [(.p (.sl l2.length (l2.map aO))),(pI 0),(.p (.v (.int .u32 (17:Int))))]))],.c (.tup [(.p (aE (aI (30:Int) (aB dc1)))),(pI 0)]) [],bF,bF,bF,bF,bF,.k 6 ⟨(rng [(0,5),(10,11),(24,22),(49,69)]),[1,2],[],[(9,0)]⟩ (.exit 0) (gC l2 sk0 dc1 i'4 any'5 m'6 t'7),.c (.tup [(.p (.sl ((fW (bY (30:Int) [] (aB dc1) (aB sk0)) o8).length) ((fW (bY (30:Int) [] (aB dc1) (aB sk0)) o8).flatten.map aA))),(pI 0)]) [],.c (.tup [(.own 2),(pI 0)]) [(2,(.row 48 ((bY (30:Int) [] (aB dc1) (aB sk0)).length) ((bY (30:Int) [] (aB dc1) (aB sk0)).flatten.map aA)))],bT,bT,bT,bT,bT,bF,bF,bF,.c (pB (decide ((fW (bY (30:Int) [] (aB dc1) (aB sk0)) o8)=(bY (30:Int) [] (aB dc1) (aB sk0))))) [],bT,bF,bT,bT,.c (pB true) [],bT]) (l:=[_,FC Tp 26 [] [] 3 (pB true) [],_,_,_,_,FC Tp 51 [(.p (.sl ((fW (bY (30:Int) [] (aB dc1) (aB sk0)) o8).length) ((fW (bY (30:Int) [] (aB dc1) (aB sk0)) o8).flatten.map aA))),(.own 2)] [(2,(.row 48 ((bY (30:Int) [] (aB dc1) (aB sk0)).length) ((bY (30:Int) [] (aB dc1) (aB sk0)).flatten.map aA)))] 3 (pB (decide ((fW (bY (30:Int) [] (aB dc1) (aB sk0)) o8)=(bY (30:Int) [] (aB dc1) (aB sk0))))) [],_,_,_,_,_,_,_,_,_,_,_,_,_,_,_,_,_,FC Tp 17 [(.p (.sl l2.length (l2.map aO)))] [] 2 (.ptr 2 0) [(2,(.box 129 [(.p (.sl l2.length (l2.map aO))),(pI 0),(.p (.v (.int .u32 (17:Int))))]))],FC Tp 16 [(.ptr 0 0),(pI 5),(pI 12)] [(0,(.box 129 [(.p (.sl l1.length (l1.map aO))),(pI 0),(.p (.v (.int .u32 (17:Int))))]))] 1 (.p (.agg (cF 30 sk0 dc1))) [(0,(.box 129 [(.p (.sl l1.length (l1.map aO))),(pI m2),(.p (.v (.int .u32 t3)))]))],FC Tp 17 [(.p (.sl l1.length (l1.map aO)))] [] 0 (.ptr 0 0) [(0,(.box 129 [(.p (.sl l1.length (l1.map aO))),(pI 0),(.p (.v (.int .u32 (17:Int))))]))]]) (by kernel_rfl) (gc h14 (gc (FV.fc h15 (by kernel_rfl)) (gc h14 (gc qV (gc h10 (gc qV (gc (fv (aRs (fW (bY (30:Int) [] (aB dc1) (aB sk0)) o8) (bY (30:Int) [] (aB dc1) (aB sk0)) h11 h12 h13)) (g3c h10 (g5c qV (gc (fk 2 (aJj h4 h7) rfl) (gc (fk 2 (bEd h4 h7 h8 h9) rfl) (gc hl6.code (gc (bJ h5) (g4c gB (gc (fk 3 (aBt h4) rfl) (gc (FMM.fc (ids:=[]) (ofO l2) (by kernel_rfl)) (gc (FMM.fc (ids:=[0]) (aRq (5:Int) (12:Int) l1 (0:Int) (17:Int) h0 h1 h2 h3) (by kernel_rfl)) (gc (FMM.fc (ids:=[]) (ofO l1) (by kernel_rfl)) gn))))))))))))))))))
def jU(l2:List Int)(sk0:Lqq)(dc1:Lqq)(i:Nat)(x100:Int)(k:Nat)(ay:Bool)(v:Int)(w:Int):St:=⟨fr 145 [(5,(.ptr 0 0)),(6,(.ptr 1 0)),(7,(.p (aE (aI (30:Int) (aB dc1))))),(8,(pI 0)),(9,(pB ay)),(11,(.rp [(aA x100)] 0)),(46,(.p (aE (aI (30:Int) (aB dc1))))),(47,(pI (((aI (30:Int) (aB dc1)).length:Nat):Int))),(48,(pI (i:Int))),(78,(pI (k:Int)))],[some (.box 26 [(pI 30),(.p (fS sk0)),(.p (fS dc1))]),some (.box 129 [(.p (.sl l2.length (l2.map aO))),(pI v),(.p (.v (.int .u32 w)))])]⟩
theorem aWj{l2:List Int}{sk0 dc1:Lqq}{i:Nat}{any:Bool}{m t x100:Int}{b101:Bool}{b102 e103:Int}{i':Nat}(h0:(i:Int)<(((aI (30:Int) (aB dc1)).length:Nat):Int))(h1:(aI (30:Int) (aB dc1))[i]? = some x100)(h2:bQ (30:Int) sk0 dc1)(h3:jX (30:Int) sk0 dc1 x100=(b101,0))(h4:uni 2 sk0)(h5:uni 6 dc1)(h6:inR x100)(h7:rL (30:Int) sk0 dc1 x100=(b102,e103))(h8:b101=true)(h9:e103=0)(h10:any=true)(h11:inR (((i+1):Nat):Int))(ei':i'=(i+1)):aC Tp 0 tM (gC l2 sk0 dc1 i any m t) .normal (gC l2 sk0 dc1 i' true m t):=by
 subst ei';exact aC.fin (g:=⟨(rng [(0,5),(10,11),(24,22),(49,69)]),[0,1],[],[(9,0)]⟩) (o:=[bT,.x (aA x100),.c (.tup [(pB b101),(pI 0)]) [],.c (.tup [(pI b102),(pI e103)]) [],bF,bF,bT,bT,bF,bT,bF,bF,bT,bT,bT]) (l:=[_,_,_,_,_,_,_,_,_,_,_,_,_,_,_,_,_]) (by kernel_rfl) (gc h11 (gc h8 (g2c h10 (gc (mY h9) (gc gB (gc h8 (gc gB (g2c h8 (g2c gB (gc (fk 3 (aHn h4 h5 h6 h7) rfl) (gc (fk 3 (aHj h2 h3) rfl) (gc (atm aA h1) (gc (ixn aA h1) (gc (aZ h0) gn))))))))))))))
theorem aWk{l2:List Int}{sk0 dc1:Lqq}{i:Nat}{any:Bool}{m t x100:Int}{b101:Bool}{b102 e103:Int}{i':Nat}(h0:(i:Int)<(((aI (30:Int) (aB dc1)).length:Nat):Int))(h1:(aI (30:Int) (aB dc1))[i]? = some x100)(h2:bQ (30:Int) sk0 dc1)(h3:jX (30:Int) sk0 dc1 x100=(b101,0))(h4:uni 2 sk0)(h5:uni 6 dc1)(h6:inR x100)(h7:rL (30:Int) sk0 dc1 x100=(b102,e103))(h8:b101=true)(h9:e103=0)(h10:any=false)(h11:inR (((i+1):Nat):Int))(ei':i'=(i+1)):aC Tp 0 tM (gC l2 sk0 dc1 i any m t) .normal (gC l2 sk0 dc1 i' b101 m t):=by
 subst ei';exact aC.fin (g:=⟨(rng [(0,5),(10,11),(24,22),(49,69)]),[0,1],[],[]⟩) (o:=[bT,.x (aA x100),.c (.tup [(pB b101),(pI 0)]) [],.c (.tup [(pI b102),(pI e103)]) [],bF,bF,bT,bT,bF,bT,bF,bF,bF,bF,bT]) (l:=[_,_,_,_,_,_,_,_,_,_,_,_,_,_,_,_,_]) (by kernel_rfl) (gc h11 (gc h8 (g2c h10 (gc (mY h9) (gc gB (gc h8 (gc gB (g2c h8 (g2c gB (gc (fk 3 (aHn h4 h5 h6 h7) rfl) (gc (fk 3 (aHj h2 h3) rfl) (gc (atm aA h1) (gc (ixn aA h1) (gc (aZ h0) gn))))))))))))))
theorem aWl{l2:List Int}{sk0 dc1:Lqq}{i:Nat}{any:Bool}{m t x100:Int}{b101:Bool}{b102 e103:Int}{k'104:Nat}{ay'105:Bool}{v'106 w'107:Int}{i':Nat}(h0:(i:Int)<(((aI (30:Int) (aB dc1)).length:Nat):Int))(h1:(aI (30:Int) (aB dc1))[i]? = some x100)(h2:bQ (30:Int) sk0 dc1)(h3:jX (30:Int) sk0 dc1 x100=(b101,0))(h4:uni 2 sk0)(h5:uni 6 dc1)(h6:inR x100)(h7:rL (30:Int) sk0 dc1 x100=(b102,e103))(h8:b101=false)(h9:any=true)(hl10:aJ Tp 0 aHi (jU l2 sk0 dc1 i x100 0 true m t) (.exit 2) (jU l2 sk0 dc1 i x100 k'104 ay'105 v'106 w'107))(h11:inR (((i+1):Nat):Int))(ei':i'=(i+1)):aC Tp 0 tM (gC l2 sk0 dc1 i any m t) .normal (gC l2 sk0 dc1 i' ay'105 v'106 w'107):=by
 subst ei';exact aC.fin (g:=⟨(rng [(0,5),(10,11),(24,22),(49,69)]),[0,1],[],[]⟩) (o:=[bT,.x (aA x100),.c (.tup [(pB b101),(pI 0)]) [],.c (.tup [(pI b102),(pI e103)]) [],bF,bF,bF,bF,bF,bF,bF,bT,bT,bF,.g 1 ⟨[],[0,1],[2],[]⟩,.k 1 ⟨(rng [(0,5),(10,1),(12,9),(24,22),(49,29),(79,38)]),[0,1],[],[(9,0)]⟩ (.exit 2) (jU l2 sk0 dc1 i x100 k'104 ay'105 v'106 w'107)]) (l:=[_,_,_,_,_,_,_,_,_,_,_,_,_,_,_,_,_]) (by kernel_rfl) (gc h11 (gc hl10.code (gc h8 (g2c h9 (gc gB (gc h8 (gc gB (g2c h8 (g2c gB (gc (fk 3 (aHn h4 h5 h6 h7) rfl) (gc (fk 3 (aHj h2 h3) rfl) (gc (atm aA h1) (gc (ixn aA h1) (gc (aZ h0) gn))))))))))))))
theorem aWm{l2:List Int}{sk0 dc1:Lqq}{i:Nat}{any:Bool}{m t x100:Int}{b101:Bool}{b102 e103:Int}{k'104:Nat}{ay'105:Bool}{v'106 w'107:Int}{i':Nat}(h0:(i:Int)<(((aI (30:Int) (aB dc1)).length:Nat):Int))(h1:(aI (30:Int) (aB dc1))[i]? = some x100)(h2:bQ (30:Int) sk0 dc1)(h3:jX (30:Int) sk0 dc1 x100=(b101,0))(h4:uni 2 sk0)(h5:uni 6 dc1)(h6:inR x100)(h7:rL (30:Int) sk0 dc1 x100=(b102,e103))(h8:b101=false)(h9:any=false)(hl10:aJ Tp 0 aHi (jU l2 sk0 dc1 i x100 0 b101 m t) (.exit 2) (jU l2 sk0 dc1 i x100 k'104 ay'105 v'106 w'107))(h11:inR (((i+1):Nat):Int))(ei':i'=(i+1)):aC Tp 0 tM (gC l2 sk0 dc1 i any m t) .normal (gC l2 sk0 dc1 i' ay'105 v'106 w'107):=by
 subst ei';exact aC.fin (g:=⟨(rng [(0,5),(10,11),(24,22),(49,69)]),[0,1],[],[]⟩) (o:=[bT,.x (aA x100),.c (.tup [(pB b101),(pI 0)]) [],.c (.tup [(pI b102),(pI e103)]) [],bF,bF,bF,bF,bF,bF,bF,bF,bF,bF,.g 1 ⟨[],[0,1],[2],[]⟩,.k 1 ⟨(rng [(0,5),(10,1),(12,9),(24,22),(49,29),(79,38)]),[0,1],[],[]⟩ (.exit 2) (jU l2 sk0 dc1 i x100 k'104 ay'105 v'106 w'107)]) (l:=[_,_,_,_,_,_,_,_,_,_,_,_,_,_,_,_,_]) (by kernel_rfl) (gc h11 (gc hl10.code (gc h8 (g2c h9 (gc gB (gc h8 (gc gB (g2c h8 (g2c gB (gc (fk 3 (aHn h4 h5 h6 h7) rfl) (gc (fk 3 (aHj h2 h3) rfl) (gc (atm aA h1) (gc (ixn aA h1) (gc (aZ h0) gn))))))))))))))
theorem aWn{l2:List Int}{sk0 dc1:Lqq}{i:Nat}{any:Bool}{m t:Int}(h0:(((aI (30:Int) (aB dc1)).length:Nat):Int)≤(i:Int)):aC Tp 0 tM (gC l2 sk0 dc1 i any m t) (.exit 0) (gC l2 sk0 dc1 i any m t):=by
 exact aC.fin (g:=⟨(rng [(0,5),(10,11),(24,22),(49,69)]),[0,1],[],[]⟩) (o:=[bF]) (l:=[_]) (by kernel_rfl) (gc (bJ h0) gn)
theorem aWo{l2:List Int}{sk0 dc1:Lqq}{i:Nat}{x100:Int}{k:Nat}{ay:Bool}{v w:Int}{u200:List Int}{m201 t202:Int}{k':Nat}(h0:(k:Int)<3)(h1:(aI (30:Int) (aB dc1)).length≤1000)(h2:0≤v∧v≤1000000)(h3:((aI (30:Int) (aB dc1)).filter fun n => !(n == x100)).length≤1000)(h4:aCm ((aI (30:Int) (aB dc1)).filter fun n => !(n == x100)) l2 v w=(u200,m201,t202))(h5:bQ (30:Int) sk0 dc1)(h6:sk0.length<20)(h7:u200.length≤1000)(h8:aJk (30:Int) (aB dc1) u200=0)(h9:[(aA x100)].length=1*1∧u200.length+1≤1000000)(h10:u200.length+1≤1000000)(h11:((u200++[x100]).mergeSort KL.leB).length≤1000)(h12:aJk (30:Int) (aB dc1) ((u200++[x100]).mergeSort KL.leB)=0)(h13:uni 3 (bY (30:Int) u200 (aB dc1) (aB sk0)))(h14:uni 3 (bY (30:Int) ((u200++[x100]).mergeSort KL.leB) (aB dc1) (aB sk0)))(h15:(bY (30:Int) u200 (aB dc1) (aB sk0)).length≤1000)(h16:(decide ((bY (30:Int) u200 (aB dc1) (aB sk0))=(bY (30:Int) ((u200++[x100]).mergeSort KL.leB) (aB dc1) (aB sk0))))=true)(h17:inR (((k+1):Nat):Int))(ek':k'=(k+1)):aC Tp 0 aHi (jU l2 sk0 dc1 i x100 k ay v w) .normal (jU l2 sk0 dc1 i x100 k' ay m201 t202):=by
 subst ek'
 exact aC.fin (g:=⟨(rng [(0,5),(10,1),(12,9),(24,22),(49,29),(79,38)]),[0,1],[],[]⟩) (o:=[bT,.c (.own 2) [(2,(.row 3 ((aI (30:Int) (aB dc1)).length) ((aI (30:Int) (aB dc1)).map aA)))],.c (.p (aE ((aI (30:Int) (aB dc1)).filter fun n => !(n == x100)))) [(2,.dead)],.c (.own 3) [(1,(.box 129 [(.p (.sl l2.length (l2.map aO))),(pI m201),(.p (.v (.int .u32 t202)))])),(3,(.row 3 u200.length (u200.map aA)))],.c (.tup [(.own 4),(pI 0)]) [(4,(.row 48 ((bY (30:Int) u200 (aB dc1) (aB sk0)).length) ((bY (30:Int) u200 (aB dc1) (aB sk0)).flatten.map aA)))],.x (aA x100),.c (.tup []) [(6,(.row 3 (((u200++[x100]).mergeSort KL.leB).length) (((u200++[x100]).mergeSort KL.leB).map aA)))],.c (.tup [(.own 7),(pI 0)]) [(7,(.row 48 ((bY (30:Int) ((u200++[x100]).mergeSort KL.leB) (aB dc1) (aB sk0)).length) ((bY (30:Int) ((u200++[x100]).mergeSort KL.leB) (aB dc1) (aB sk0)).flatten.map aA)))],bF,bF,bF,bF,bF,bF,.c (pB (decide ((bY (30:Int) u200 (aB dc1) (aB sk0))=(bY (30:Int) ((u200++[x100]).mergeSort KL.leB) (aB dc1) (aB sk0))))) [],bF,bF,bF]) (l:=[_,_,_,_,FC Tp 51 [(.own 4),(.own 7)] [(4,(.row 48 ((bY (30:Int) u200 (aB dc1) (aB sk0)).length) ((bY (30:Int) u200 (aB dc1) (aB sk0)).flatten.map aA))),(7,(.row 48 ((bY (30:Int) ((u200++[x100]).mergeSort KL.leB) (aB dc1) (aB sk0)).length) ((bY (30:Int) ((u200++[x100]).mergeSort KL.leB) (aB dc1) (aB sk0)).flatten.map aA)))] 8 (pB (decide ((bY (30:Int) u200 (aB dc1) (aB sk0))=(bY (30:Int) ((u200++[x100]).mergeSort KL.leB) (aB dc1) (aB sk0))))) [],_,_,_,_,_,_,FC Tp 21 [(.p (.agg (cF 30 sk0 dc1))),(.own 6)] [(6,(.row 3 (((u200++[x100]).mergeSort KL.leB).length) (((u200++[x100]).mergeSort KL.leB).map aA)))] 7 (.tup [(.own 7),(pI 0)]) [(7,(.row 48 ((bY (30:Int) ((u200++[x100]).mergeSort KL.leB) (aB dc1) (aB sk0)).length) ((bY (30:Int) ((u200++[x100]).mergeSort KL.leB) (aB dc1) (aB sk0)).flatten.map aA)))],FC Tp 57 [(.own 6)] [(6,(.row 3 (u200.length+1) ((u200.map aA)++[(aA x100)])))] 7 (.tup []) [(6,(.row 3 (((u200++[x100]).mergeSort KL.leB).length) (((u200++[x100]).mergeSort KL.leB).map aA)))],_,[(aA x100)][0]? = some (aA x100),FC Tp 21 [(.p (.agg (cF 30 sk0 dc1))),(.own 3)] [(3,(.row 3 u200.length (u200.map aA)))] 4 (.tup [(.own 4),(pI 0)]) [(4,(.row 48 ((bY (30:Int) u200 (aB dc1) (aB sk0)).length) ((bY (30:Int) u200 (aB dc1) (aB sk0)).flatten.map aA)))],FC Tp 20 [(.ptr 1 0),(.p (aE ((aI (30:Int) (aB dc1)).filter fun n => !(n == x100))))] [(1,(.box 129 [(.p (.sl l2.length (l2.map aO))),(pI v),(.p (.v (.int .u32 w)))]))] 3 (.own 3) [(1,(.box 129 [(.p (.sl l2.length (l2.map aO))),(pI m201),(.p (.v (.int .u32 t202)))])),(3,(.row 3 u200.length (u200.map aA)))],FC Tp 54 [(.own 2),(.fn 59 [] [(.rp [(aA x100)] 0)])] [(2,(.row 3 ((aI (30:Int) (aB dc1)).length) ((aI (30:Int) (aB dc1)).map aA)))] 3 (.p (aE ((aI (30:Int) (aB dc1)).filter fun n => !(n == x100)))) [(2,.dead)],_,_]) (by kernel_rfl) (gc h17 (gc (aY h16) (g2c gB (gc (fv (aRs (bY (30:Int) u200 (aB dc1) (aB sk0)) (bY (30:Int) ((u200++[x100]).mergeSort KL.leB) (aB dc1) (aB sk0)) h13 h14 h15)) (g6c gB (gc (FV.view (args':=[(.p (.agg (cF 30 sk0 dc1))),(.p (aE ((u200++[x100]).mergeSort KL.leB)))]) (aSd h5 h6 ((u200++[x100]).mergeSort KL.leB) h11 h12) (by kernel_rfl) (by kernel_rfl) aFf) (gc (FMM.fc (ids:=[6]) (bEi u200 x100 h10) (by kernel_rfl)) (gc h9 (gc rfl (gc (FV.view (args':=[(.p (.agg (cF 30 sk0 dc1))),(.p (aE u200))]) (aSd h5 h6 u200 h7 h8) (by kernel_rfl) (by kernel_rfl) aFf) (gc (FMM.fc (ids:=[1]) (bUy ((aI (30:Int) (aB dc1)).filter fun n => !(n == x100)) l2 v w h2 h3 h4) (by kernel_rfl)) (gc (FMM.fc (ids:=[2]) (bQe (l:=(aI (30:Int) (aB dc1))) (m:=x100) h1 (fun _ _=>rfl)) (by kernel_rfl)) (gc (fk 2 (bHh (aI (30:Int) (aB dc1)) h1) rfl) (gc (aZ h0) gn))))))))))))))
theorem aWp{l2:List Int}{sk0 dc1:Lqq}{i:Nat}{x100:Int}{k:Nat}{ay:Bool}{v w:Int}(h0:(3:Int)≤(k:Int)):aC Tp 0 aHi (jU l2 sk0 dc1 i x100 k ay v w) (.exit 2) (jU l2 sk0 dc1 i x100 k ay v w):=by
 exact aC.fin (g:=⟨(rng [(0,5),(10,1),(12,9),(24,22),(49,29),(79,38)]),[0,1],[],[]⟩) (o:=[bF]) (l:=[_]) (by kernel_rfl) (gc (bJ h0) gn)
end
section
theorem bOx{dl:Int}{D:Lqq}{u:List Int}(h2:u.Pairwise (· < ·))(hu:∀ n∈u,n∈aI dl D):aJk dl D u=0:=by
 unfold aJk;rw [if_pos (fV.2 fun n hn=>by
  unfold ocB;rw [List.contains_iff_mem];exact hu n hn),if_pos]
 unfold rK;rw [fV];intro i hi;have hi:=nH.1 hi
 rcases Nat.eq_zero_or_pos i with rfl | h0
 ·rfl
 ·rw [aBh]
  refine .inr (decide_eq_true ?_);have:=List.pairwise_iff_getElem.1 h2 (i-1) i (by omega) hi (by omega)
  rw [kQ4,kQ4,kQ0 hi,kQ0 (show i-1<u.length by omega)]
  exact this
theorem bIm{dl:Int}{D:Lqq}(hd:bZ D):(aI dl D).Pairwise (· < ·):=by
 unfold aI;rw [List.pairwise_map];exact hd.up.sublist List.filter_sublist
theorem bOy{l:List Int}(h:l.Nodup):(l.mergeSort KL.leB).Pairwise (· < ·):=by
 have h1:(l.mergeSort KL.leB).Pairwise fun a b=>KL.leB a b=true:=List.pairwise_mergeSort (fun a b c h1 h2=>by simp only [KL.leB,decide_eq_true_eq] at *;omega) (fun a b=>by simp only [KL.leB,aBh,decide_eq_true_eq];omega) l
 have h2:(l.mergeSort KL.leB).Nodup:=(List.mergeSort_perm l KL.leB).nodup_iff.2 h;exact (h1.and h2).imp fun {a b} q=>by
  have q1:a≤b:=of_decide_eq_true q.1;have q2:a≠b:=q.2;omega
end
section
section
variable {sk0 dc1:Lqq}
theorem bJk{n:Int}(hn:n∈aI 30 (aB dc1))(h8:(aI 30 (aB dc1)).length≤8):(jX 30 sk0 dc1 n).2=0:=by
 unfold jX;rw [if_neg (by rw [List.contains_iff_mem.2 hn];simp),if_neg (by omega)]
 split <;> rfl
theorem aWh{b:Int}{l:List Int}(h:∀ x∈l,x≠b):bC (fun x=>decide (b=x)) l<0:=by
 unfold bC;rw [List.findIdx?_eq_none_iff.2 fun x hx=>decide_eq_false fun e=>h x hx e.symm]
 decide
theorem bEb(hr:bQ 30 sk0 dc1){x:List Int}(hx:x∈aB dc1)(hn:dN x∈aI 30 (aB dc1))(h8:(aI 30 (aB dc1)).length≤8)(hm:(jX 30 sk0 dc1 (dN x)).1=true):rL 30 sk0 dc1 (dN x)=(eO (aB dc1) x,0):=by
 have hd:=eF hr;have hsb:zC (aB dc1) (dN x)=eO (aB dc1) x:=by unfold zC;rw [rY hd hx]
 unfold rL;rw [if_neg (by rw [Ne,(aIg hr.us hr.ud).2 hr];exact fun q=>q rfl),rY hd hx]
 dsimp only;rw [if_pos];refine Int.not_le.1 fun h0 => ?_
 unfold jX at hm
 rw [if_neg (by rw [List.contains_iff_mem.2 hn];simp),if_neg (by omega),hsb,if_pos (aWh fun y hy e=>by
  obtain ⟨s,hs,rfl⟩:=dF.1 hy;have hs:=(eU sk0).mem_iff.1 hs;have:=(zL.1 (hr.hsk s hs)).1.1;omega)] at hm
 cases hm
theorem bEc{l:Lqq}{su:List Int}(h:∀ x∈l,x.getD 0 0∈su):fW l su=l:=List.filter_eq_self.2 fun x hx=>by
 rw [List.contains_iff_mem.2 (h x hx)];rfl
theorem aWi(hr:bQ 30 sk0 dc1)(hsl:sk0.length<20)(h8:(aI 30 (aB dc1)).length≤8){l2:List Int}{i:Nat}{x:List Int}(hx:x∈aB dc1)(hn:dN x∈aI 30 (aB dc1))(hm:(jX 30 sk0 dc1 (dN x)).1=false)(ay:Bool){m t:Int}(hm0:0≤m∧m≤1000) :
  ∃ v w,(m≤v∧v≤m+24)∧aJ Tp 0 (sub (cd Tryz.f9) [1,1,1,1,1,1,0,1,0,0,1,1,0,0,1,1,1,1,1,1,1,0,0]) (jU l2 sk0 dc1 i (dN x) 0 ay m t) (.exit 2) (jU l2 sk0 dc1 i (dN x) 3 ay v w):=by
 have hD:=eF hr;have hlen:=hr.len;have hup:=bIm (dl:=30) hD;have hfl:=uZ (fun n => !(n == dN x)) (aI 30 (aB dc1))
 obtain ⟨⟨v,w⟩,hI,hL⟩:=aJ.ex (P:=Tp) (k:=0) (b:=sub (cd Tryz.f9) [1,1,1,1,1,1,0,1,0,0,1,1,0,0,1,1,1,1,1,1,1,0,0]) (e := .exit 2)
  (fun k (a:Int × Int)=>jU l2 sk0 dc1 i (dN x) k ay a.1 a.2) (fun a=>jU l2 sk0 dc1 i (dN x) 3 ay a.1 a.2) (fun k a=>m≤a.1∧a.1≤m+8*(k:Int)) (by simp) 3
  (fun k a hk hI=>by
   obtain ⟨v,w⟩:=a;dsimp only at hI
   rcases hs:aCm ((aI 30 (aB dc1)).filter fun n => !(n == dN x)) l2 v w with ⟨u,v',w'⟩
   have S:=aRo ((aI 30 (aB dc1)).filter fun n => !(n == dN x)) l2 v w
   rw [hs] at S
   obtain ⟨hu,hv1,hv2⟩:=S;dsimp only at hu hv1 hv2
   have hul:=hu.length_le;have hu2:u.Sublist (aI 30 (aB dc1)):=hu.trans List.filter_sublist;have hnu:dN x∉u:=fun q=>by
    have:=(vB.1 (hu.subset q)).2;simp at this
   have hnd:(u++[dN x]).Nodup:=by
    rw [List.nodup_append];refine ⟨(hup.sublist hu2).imp fun {a b} q e=>by omega,by simp,fun a ha b hb e => ?_⟩
    rw [List.mem_singleton.1 hb] at e
    exact hnu (e ▸ ha)
   have hvl:((u++[dN x]).mergeSort KL.leB).length=u.length+1:=by rw [bJc,lG,List.length_singleton]
   have hv:aJk 30 (aB dc1) ((u++[dN x]).mergeSort KL.leB)=0:=bOx (bOy hnd) fun n hn'=>by
    rcases iI.1 ((List.mergeSort_perm _ _).mem_iff.1 hn') with q | q
    ·exact hu2.subset q
    ·rw [List.mem_singleton.1 q];exact hn
   have he:bY 30 u (aB dc1) (aB sk0)=bY 30 ((u++[dN x]).mergeSort KL.leB) (aB dc1) (aB sk0):=bIc fun s hs=>(aUj hr hx hn h8 hm hu hs).trans (bOu (fun n=>by
    rw [Bool.eq_iff_iff,List.contains_iff_mem,List.contains_iff_mem,(List.mergeSort_perm _ _).mem_iff]) _ _)
   have hlen2:∀ {q:List Int},(bY 30 q (aB dc1) (aB sk0)).length≤1000:=fun {q}=>by rw [aDc,eP];omega
   exact ⟨(v',w'),⟨by dsimp only;omega,by dsimp only;omega⟩,aWo (by omega) (by omega) (by omega) (by omega) hs hr hsl (by omega) (bIj hD.up hu2) ⟨rfl,by omega⟩ (by omega) (by omega) hv rJ rJ hlen2 (decide_eq_true he) (aP (by omega)) rfl⟩)
  (fun a _=>aWp (by omega)) (acc:=(m,t)) ⟨aDr _,by dsimp only;omega⟩
 dsimp only at hI
 exact ⟨v,w,⟨hI.1,by have:=hI.2;omega⟩,hL⟩
theorem bPu(hA:∀ {base:Nat},FV Tp 26 [] base (.p (blP true)) [])(l1 l2:List Int){base:Nat}:FV Tp 9 [.p (.sl l1.length (l1.map aO)),.p (.sl l2.length (l2.map aO))] base (.p (blP true)) []:=by
 have M:=aMp (ns:=5) (nd:=12) (l:=l1) (nx:=0) (st:=17) (by decide) (by decide) (by decide)
 rcases hmd:aRp 5 12 l1 0 17 with ⟨sk0,dc1,m2,t3⟩
 rw [hmd] at M
 obtain ⟨hr,hl5,hl12,_,_,_,hb,_,_⟩:=M;dsimp only at hr hl5 hl12 hb
 have hlen:=hr.len;have hD:=eF hr
 by_cases h8:8<(aI 30 (aB dc1)).length
 ·exact bPw (by omega) (by omega) (by omega) hmd hr (by omega) hA
 have h8:(aI 30 (aB dc1)).length≤8:=by omega
 obtain ⟨⟨any,m,t⟩,⟨hI1,hI2⟩,hL⟩:=aJ.ex (P:=Tp) (k:=0) (b:=sub (cd Tryz.f9) [1,1,1,1,1,1,0,1,0,0]) (e := .exit 0)
  (fun i (a:Bool × Int × Int)=>gC l2 sk0 dc1 i a.1 a.2.1 a.2.2) (fun a=>gC l2 sk0 dc1 (aI 30 (aB dc1)).length a.1 a.2.1 a.2.2)
  (fun i a=>a.1=((aI 30 (aB dc1)).take i).any (fun n=>(jX 30 sk0 dc1 n).1)∧0≤a.2.1∧a.2.1≤24*(i:Int)) (by simp) (aI 30 (aB dc1)).length
  (fun i a hi hI=>by
   obtain ⟨any,m,t⟩:=a;obtain ⟨hI1,hI2,hI3⟩:=hI;dsimp only at hI1 hI2 hI3
   obtain ⟨n,hn⟩:∃ n,(aI 30 (aB dc1))[i]=n:=⟨_,rfl⟩;have hx:(aI 30 (aB dc1))[i]? = some n:=by rw [kQ0 hi,hn]
   have hm0:n∈aI 30 (aB dc1):=hn ▸ iQ hi;have hm1:=hm0;unfold aI at hm1
   obtain ⟨x,hxo,rfl⟩:=dF.1 hm1;have hxD:=(vB.1 hxo).1;have hrg:=dS hD hxD;have hin:inR (dN x):=by unfold inR;omega
   have et:((aI 30 (aB dc1)).take (i+1)).any (fun n=>(jX 30 sk0 dc1 n).1)=(any || (jX 30 sk0 dc1 (dN x)).1):=by
    rw [List.take_add_one,hx,List.any_append,← hI1];simp
   have hme:=bJk (sk0:=sk0) hm0 h8;cases hb2:(jX 30 sk0 dc1 (dN x)).1 with
   | true =>
    have hmE:jX 30 sk0 dc1 (dN x)=(true,0):=Prod.ext hb2 hme;have hsE:=bEb hr hxD hm0 h8 hb2;refine ⟨(true,m,t),⟨by rw [et,hb2,Bool.or_true],hI2,by dsimp only;omega⟩,?_⟩
    cases any with
    | true=>exact aWj (by omega) hx hr hmE hr.us hr.ud hin hsE rfl rfl rfl (aP (by omega)) rfl
    | false=>exact aWk (by omega) hx hr hmE hr.us hr.ud hin hsE rfl rfl rfl (aP (by omega)) rfl
   | false =>
    have hmE:jX 30 sk0 dc1 (dN x)=(false,0):=Prod.ext hb2 hme
    rcases hsE:rL 30 sk0 dc1 (dN x) with ⟨b,e⟩
    obtain ⟨v,w,hv,hl⟩:=aWi hr (by omega) h8 (l2:=l2) (i:=i) hxD hm0 hb2 any (m:=m) (t:=t) (by omega)
    refine ⟨(any,v,w),⟨by rw [et,hb2,Bool.or_false],by dsimp only;omega,by dsimp only;omega⟩,?_⟩
    cases any with
    | true=>exact aWl (by omega) hx hr hmE hr.us hr.ud hin hsE rfl rfl hl (aP (by omega)) rfl
    | false=>exact aWm (by omega) hx hr hmE hr.us hr.ud hin hsE rfl rfl hl (aP (by omega)) rfl)
  (fun a _=>aWn (by omega)) (acc:=(false,0,17)) ⟨by simp,by simp,by simp⟩
 dsimp only at hI1 hI2
 rw [List.take_length] at hI1
 have hc:=bQa hr (f:=1) (by decide) h8
 have hol:(aWq 30 (aB sk0) (aB dc1)).length≤1000:=by
  unfold aWq;rw [kQ9];refine gK (uZ _ _) ?_;rw [bJg,eP];omega
 cases hany:any with
 | true =>
  rw [hany] at hL
  exact bPx (by omega) (by omega) (by omega) hmd hr (by omega) hL (by omega) hc hol rfl hA
 | false =>
  rw [hany] at hL hI1
  have hno:∀ n∈aI 30 (aB dc1),(jX 30 sk0 dc1 n).1=false:=fun n hn=>by
   have:=List.any_eq_false.1 hI1.symm n hn;simpa using this
  have hkp:fW (bY 30 [] (aB dc1) (aB sk0)) (aWq 30 (aB sk0) (aB dc1))=bY 30 [] (aB dc1) (aB sk0):=bEc fun y hy=>by
   obtain ⟨s,hs,e,_⟩:=(bIl (dl:=30) (oc:=[]) (dc:=aB dc1) (bCj hr)).2.2 y hy;obtain ⟨i,hi,rfl⟩:=List.getElem_of_mem hs;rw [← e];unfold aWq;refine dF.2 ⟨i,vB.2 ⟨nH.2 hi,?_⟩,?_⟩
   ·unfold aOv
    rw [vW (kQ0 hi)];dsimp only;obtain ⟨q1,q2⟩:=bOq hr h8 hno hs i;unfold aHl;rw [decide_eq_true (by omega),Bool.and_true,Bool.not_eq_true',beq_eq_false_iff_ne]
    exact q1
   ·have hg:(aB sk0).getD i []=(aB sk0)[i]:=by rw [kQ4,kQ0 hi];rfl
    rw [hg]
  have hlen2:(bY 30 [] (aB dc1) (aB sk0)).length≤1000:=by rw [aDc,eP];omega
  exact bPy (by omega) (by omega) (by omega) hmd hr (by omega) hL (by omega) hc hol rfl (by rw [hkp];exact rJ) rJ (by rw [hkp];exact hlen2) (decide_eq_true hkp) hA
end
end
end KV
end Go.Proofs
