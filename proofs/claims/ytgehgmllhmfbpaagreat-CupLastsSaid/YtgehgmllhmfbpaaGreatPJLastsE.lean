/- Parts of the proof of JLasts: laws of walks, contracts of functions, plain models. No condition. -/
import Derived.Test.YtgehgmllhmfbpaaGreatPJLastsD
set_option linter.unusedVariables false
set_option linter.unusedSimpArgs false
set_option maxRecDepth 100000
section
namespace Go.Proofs
open KL Go.RowKit
namespace KL
section
variable {α:Type}
theorem ins_stable{f g:α→Int}{lt:α→α→Bool}(hlt:∀ x y,lt x y=decide (f x<f y)){A:List α}(x:α)(hs:A.Pairwise (fun a b=>f a<f b∨f a=f b∧g a<g b))(hg:∀ a∈A,g a<g x):(ins lt A x).Pairwise (fun a b=>f a<f b∨f a=f b∧g a<g b):=by
  obtain ⟨B,D,rfl,h2,h3,h4⟩:=ins_split lt A x
  rw [h2]
  obtain ⟨s1,s2,s3⟩:=List.pairwise_append.1 hs
  have hB:∀ b∈B,f b≤f x:=fun b hb=>by
    rcases h4 with rfl | ⟨B',h,rfl,hx⟩
    · simp at hb
    · rw [hlt,decide_eq_false_iff_not] at hx
      rcases List.mem_append.1 hb with hb | hb
      · have:=(List.pairwise_append.1 s1).2.2 b hb h (by simp)
        omega
      · simp at hb;subst hb;omega
  have hD:∀ d∈D,f x<f d:=fun d hd=>by
    have:=h3 d hd
    rwa [hlt,decide_eq_true_eq] at this
  refine List.pairwise_append.2 ⟨s1,List.pairwise_cons.2 ⟨fun d hd => .inl (hD d hd),s2⟩,fun a ha b hb => ?_⟩
  rcases List.mem_cons.1 hb with rfl | hb
  · have h5:=hB a ha
    have h6:=hg a (List.mem_append_left _ ha)
    by_cases e:f a=f b
    · exact .inr ⟨e,h6⟩
    · exact .inl (by omega)
  · exact s3 a ha b hb
theorem isort_stable{f g:α→Int}{lt:α→α→Bool}(hlt:∀ x y,lt x y=decide (f x<f y))(l:List α)(hl:l.Pairwise (fun a b=>g a<g b)):(isort lt l).Pairwise (fun a b=>f a<f b∨f a=f b∧g a<g b):=by
  unfold isort
  have:∀ (l A:List α),l.Pairwise (fun a b=>g a<g b)→(∀ a∈A,∀ x∈l,g a<g x)→A.Pairwise (fun a b=>f a<f b∨f a=f b∧g a<g b)→(l.foldl (ins lt) A).Pairwise (fun a b=>f a<f b∨f a=f b∧g a<g b):=by
    intro l
    induction l with
    | nil=>intro A _ _ h;exact h
    | cons x r ih =>
      intro A hl hA h
      obtain ⟨h1,h2⟩:=List.pairwise_cons.1 hl
      rw [List.foldl_cons]
      refine ih _ h2 (fun a ha y hy => ?_) (ins_stable hlt x h (fun a ha=>hA a ha x (List.mem_cons_self ..)))
      rcases List.mem_cons.1 ((ins_perm lt A x).mem_iff.1 ha) with rfl | ha
      · exact h1 y hy
      · exact hA a ha y (List.mem_cons_of_mem _ hy)
  exact this l [] hl (fun a ha=>by simp at ha) .nil
end
end KL
namespace KV

abbrev scF(c:Cup)(s:Nat)(x:Int):Int:=scoreAt c x.toNat s
abbrev srtC(c:Cup)(s:Nat):List Int:=KL.isort (KL.ltC (KL.cntCmp c s)) (KL.idx c.done.length)
theorem idx_pw(n:Nat):(KL.idx n).Pairwise (· < ·):=by
  unfold KL.idx
  rw [List.pairwise_map]
  exact List.Pairwise.imp (fun h=>by omega) List.pairwise_lt_range
theorem srtC_pw(c:Cup)(s:Nat):(srtC c s).Pairwise (fun a b => -scF c s a < -scF c s b ∨ -scF c s a = -scF c s b∧a<b):=by
  refine isort_stable (f:=fun x => -scF c s x) (g:=fun x=>x) (fun x y => ?_) _ (idx_pw _)
  refine (cmp_dec _ _).trans ?_
  rw [decide_eq_decide]
  show scF c s y<scF c s x ↔ -scF c s x < -scF c s y
  omega
theorem srtC_perm(c:Cup)(s:Nat):(srtC c s).Perm (KL.idx c.done.length):=isort_perm _ _
theorem cntd_perm(c:Cup)(s:Nat):(countedL c s).Perm ((srtC c s).take (min c.done.length c.be.toNat)):=by
  rw [countedL_eq]
  exact KL.sortI_perm _
theorem cntd_lt(c:Cup)(s:Nat):(countedL c s).Pairwise (· < ·):=by
  have h1:(countedL c s).Pairwise (· ≤ ·):=by rw [countedL_eq];exact KL.sortI_sorted _
  have h2:(countedL c s).Pairwise (· ≠ ·):=by
    refine (cntd_perm c s).symm.pairwise (List.Pairwise.sublist (List.take_sublist _ _) ((srtC_pw c s).imp fun h => ?_)) (fun h=>h.symm)
    intro e;subst e
    rcases h with h | h <;> omega
  exact (h1.and h2).imp fun h=>by omega
theorem totalM_take(c:Cup)(s:Nat):totalM c s=(((srtC c s).map (scF c s)).take (min c.done.length c.be.toNat)).sum:=by
  unfold totalM
  rw [← List.map_take]
  exact sum_perm ((cntd_perm c s).map _)
theorem scF_bd{c:Cup}(hV:KL.Valid c)(s:Nat)(x:Int):0≤scF c s x∧scF c s x≤1000:=KL.scoreM_bd _ _ _ hV.pts
end KV
end Go.Proofs
end
namespace Go.Proofs
namespace KV
section
open KL
def mostM(c:Cup)(n:Nat):List Int:=(List.range n).map fun s=>totalM (withC c (wonM c s)) s
end
end KV
end Go.Proofs
section
namespace Go.Proofs
namespace KL
theorem worth_snoc(pts:List Int)(p m:Nat):worthM pts p (m+1)=worthM pts p m+pts.getD (p-1+m) 0:=by
  unfold worthM
  rw [List.take_add_one,List.sum_append,List.getElem?_drop,List.getD_eq_getElem?_getD]
  cases pts[p-1+m]? <;> simp
theorem falls_le{pts:List Int}(h:fallsB pts=true)(h0:∀ x∈pts,0≤x):∀ (d a:Nat),pts.getD (a+d) 0≤pts.getD a 0:=by
  have nn:∀ a,0≤pts.getD a 0:=fun a=>by
    rw [List.getD_eq_getElem?_getD]
    cases e:pts[a]? with
    | none=>simp
    | some x=>simpa using h0 x (List.mem_of_getElem? e)
  have hz:∀ a,pts.length≤a→pts.getD a 0=0:=fun a ha=>by rw [List.getD_eq_getElem?_getD,List.getElem?_eq_none ha];rfl
  unfold fallsB sortedB at h
  rw [decide_eq_true_iff] at h
  intro d
  induction d with
  | zero=>intro a;exact Int.le_refl _
  | succ d ih =>
    intro a
    refine Int.le_trans ?_ (ih a)
    rw [← Nat.add_assoc]
    by_cases hl:a+d+1<pts.length
    · have:=h (a+d) (by omega)
      unfold cmpDown cmpI at this
      repeat' split at this
      all_goals omega
    · rw [hz _ (by omega)];exact nn _
end KL
end Go.Proofs
end
section
namespace Go.Proofs
open KL Go.RowKit
namespace KV

def pos(x:Int):Int:=if 0≤x then x else 0
theorem pos_nn(x:Int):0≤pos x:=by unfold pos;split <;> omega
theorem pos_ge(x:Int):x≤pos x:=by unfold pos;split <;> omega
abbrev ov(t:Int)(l:List Int):Int:=(l.map fun x=>pos (x-t)).sum
theorem ov_nn(t:Int)(l:List Int):0≤ov t l:=sum_nonneg fun x hx=>by
  obtain ⟨y,_,rfl⟩:=List.mem_map.1 hx
  exact pos_nn _
theorem top_le{t:Int}(ht:0≤t):∀ (A:List Int) (k:Nat),(A.take k).sum≤k*t+ov t A
  | A,0=>by have:=ov_nn t A;simp;omega
  | [],k+1=>by
    have:0≤((k+1:Nat):Int)*t:=Int.mul_nonneg (by omega) ht
    simpa [ov] using this
  | x::r,k+1=>by
    have h:=top_le ht r k
    have h2:=pos_ge (x-t)
    have e:((k+1:Nat):Int)*t=k*t+t:=by rw [Int.natCast_add,Int.add_mul];omega
    have e2:ov t (x::r)=pos (x-t)+ov t r:=by unfold ov;rw [List.map_cons,List.sum_cons]
    rw [List.take_succ_cons,List.sum_cons,e,e2]
    omega
theorem ov_low{t:Int}:∀ {l:List Int},(∀ x∈l,x≤t)→ov t l=0
  | [],_=>rfl
  | x::r,h=>by
    have e2:ov t (x::r)=pos (x-t)+ov t r:=by unfold ov;rw [List.map_cons,List.sum_cons]
    rw [e2,ov_low fun y hy=>h y (List.mem_cons_of_mem _ hy)]
    have:=h x (List.mem_cons_self ..)
    unfold pos;split <;> omega
theorem ov_high{t:Int}:∀ {l:List Int},(∀ x∈l,t≤x)→l.sum=l.length*t+ov t l
  | [],_=>by simp [ov]
  | x::r,h=>by
    have e2:ov t (x::r)=pos (x-t)+ov t r:=by unfold ov;rw [List.map_cons,List.sum_cons]
    have e:((r.length+1:Nat):Int)*t=r.length*t+t:=by rw [Int.natCast_add,Int.add_mul];omega
    have:=h x (List.mem_cons_self ..)
    have h3:=ov_high fun y hy=>h y (List.mem_cons_of_mem _ hy)
    have h4:pos (x-t)=x-t:=by unfold pos;rw [if_pos (by omega)]
    rw [List.sum_cons,e2,List.length_cons,e,h4]
    omega
theorem top_eq{A:List Int}(hs:A.Pairwise (fun a b=>b≤a))(h0:∀ x∈A,0≤x)(k:Nat):∃ t:Int,0≤t∧(A.take k).sum=k*t+ov t A:=by
  have hov:∀ t,ov t A=ov t (A.take k)+ov t (A.drop k):=fun t=>by
    unfold ov
    rw [← List.sum_append,← List.map_append,List.take_append_drop]
  rw [← List.take_append_drop k A] at hs
  have hp:=(List.pairwise_append.1 hs)
  cases hd:A.drop k with
  | nil =>
    refine ⟨0,by omega,?_⟩
    rw [hov,hd,Int.mul_zero,ov_high (t:=0) (l:=A.take k) (fun x hx=>h0 x (List.mem_of_mem_take hx)),Int.mul_zero]
    simp [ov]
  | cons y r =>
    have hk:k<A.length:=by
      have h:(A.drop k).length=r.length+1:=by rw [hd];rfl
      rw [List.length_drop] at h;omega
    rw [hd] at hp
    have hy:y∈A:=List.mem_of_mem_drop (i:=k) (by rw [hd];exact List.mem_cons_self ..)
    refine ⟨y,h0 y hy,?_⟩
    rw [hov,hd,ov_high (t:=y) (l:=A.take k) (fun x hx=>hp.2.2 x hx y (List.mem_cons_self ..)),ov_low (t:=y) (l:=y::r),List.length_take,Nat.min_eq_left (by omega)]
    · omega
    · intro x hx
      rcases List.mem_cons.1 hx with rfl | hx
      · exact Int.le_refl _
      · exact (List.pairwise_cons.1 hp.2.1).1 x hx
theorem top_mono{A B:List Int}{k:Nat}(hs:B.Pairwise (fun a b=>b≤a))(h0:∀ x∈B,0≤x)(h:∀ t,0≤t→ov t A≤ov t B):(A.take k).sum≤(B.take k).sum:=by
  obtain ⟨t,ht,e⟩:=top_eq hs h0 k
  have:=top_le ht A k
  have:=h t ht
  omega

abbrev scR(c:Cup)(s:Nat)(r:List Int):Int:=scoreM c.pts r s
abbrev srtS(c:Cup)(s:Nat):List Int:=(srtC c s).map (scF c s)
theorem srtS_pw(c:Cup)(s:Nat):(srtS c s).Pairwise (fun a b=>b≤a):=by
  unfold srtS
  rw [List.pairwise_map]
  exact (srtC_pw c s).imp fun h=>by omega
theorem srtS_perm(c:Cup)(s:Nat):(srtS c s).Perm (c.done.map (scR c s)):=by
  refine ((srtC_perm c s).map _).trans ?_
  have:(KL.idx c.done.length).map (scF c s)=c.done.map (scR c s):=by
    unfold KL.idx
    rw [List.map_map]
    refine List.ext_getElem (by simp) fun i h1 h2 => ?_
    have hi:i<c.done.length:=by simpa using h2
    simp only [List.getElem_map,List.getElem_range,Function.comp]
    show scoreM c.pts (c.done.getD (i:Int).toNat []) s=scoreM c.pts c.done[i] s
    rw [Int.toNat_natCast,List.getD_eq_getElem?_getD,List.getElem?_eq_getElem hi];rfl
  rw [this]
theorem srtS_nn{c:Cup}(hV:KL.Valid c)(s:Nat):∀ x∈srtS c s,0≤x:=fun x hx=>by
  obtain ⟨y,_,rfl⟩:=List.mem_map.1 hx
  exact (scF_bd hV s y).1
theorem total_top(c:Cup)(s:Nat):totalM c s=((srtS c s).take c.be.toNat).sum:=by
  rw [totalM_take]
  have hl:(srtS c s).length=c.done.length:=by rw [(srtS_perm c s).length_eq,List.length_map]
  by_cases h:c.be.toNat≤c.done.length
  · rw [Nat.min_eq_right h]
  · rw [Nat.min_eq_left (by omega),List.take_of_length_le (l:=srtS c s) (by omega),List.take_of_length_le (l:=srtS c s) (by omega)]
theorem ov_srt(c:Cup)(s:Nat)(t:Int):ov t (srtS c s)=ov t (c.done.map (scR c s)):=sum_perm ((srtS_perm c s).map _)
theorem ov_with(c:Cup)(F:List (List Int))(s:Nat)(t:Int):ov t (srtS (withC c F) s)=ov t (c.done.map (scR c s))+ov t (F.map (scR c s)):=by
  rw [ov_srt]
  show ov t ((c.done++F).map (scR c s))=_
  unfold ov
  rw [List.map_append,List.map_append,List.sum_append]
end KV
end Go.Proofs
end
section
namespace Go.Proofs
open KL Go.RowKit
namespace KV

def lexGt(p q:List Int):Prop:=∃ k,1≤k∧k≤60∧q.getD k 0<p.getD k 0∧∀ j,1≤j→j<k→p.getD j 0=q.getD j 0
def lexGe(p q:List Int):Prop:=(∀ j,1≤j→j≤60→p.getD j 0=q.getD j 0)∨lexGt p q
theorem lexFrom_iff(p q:List Int):∀ f i:Nat,KL.lexFrom p q f i=true↔∃ k,i≤k∧k<i+f∧q.getD k 0<p.getD k 0∧∀ j,i≤j→j<k→p.getD j 0=q.getD j 0
  | 0,i=>by
    unfold KL.lexFrom
    constructor
    · intro h;cases h
    · rintro ⟨k,h1,h2,_⟩;omega
  | f+1,i=>by
    unfold KL.lexFrom
    by_cases e:p.getD i 0=q.getD i 0
    · rw [if_pos e,lexFrom_iff p q f (i+1)]
      constructor
      · rintro ⟨k,h1,h2,h3,h4⟩
        refine ⟨k,by omega,by omega,h3,fun j hj hk => ?_⟩
        by_cases ej:j=i
        · rw [ej];exact e
        · exact h4 j (by omega) hk
      · rintro ⟨k,h1,h2,h3,h4⟩
        have:k≠i:=fun ek=>by rw [ek] at h3;omega
        exact ⟨k,by omega,by omega,h3,fun j hj hk=>h4 j (by omega) hk⟩
    · rw [if_neg e]
      constructor
      · intro h
        exact ⟨i,Nat.le_refl _,by omega,of_decide_eq_true h,fun j hj hk=>by omega⟩
      · rintro ⟨k,h1,h2,h3,h4⟩
        by_cases ek:k=i
        · rw [ek] at h3;exact decide_eq_true h3
        · exact absurd (h4 i (Nat.le_refl _) (by omega)) e
theorem lexGt_iff{p q:List Int}:KL.lexFrom p q 60 1=true↔lexGt p q:=by
  rw [lexFrom_iff]
  constructor
  · rintro ⟨k,h1,h2,h3,h4⟩;exact ⟨k,h1,by omega,h3,h4⟩
  · rintro ⟨k,h1,h2,h3,h4⟩;exact ⟨k,h1,by omega,h3,h4⟩
theorem lexGe_gt{p q r:List Int}(h:lexGe p q)(g:lexGt q r):lexGt p r:=by
  obtain ⟨k,k1,k2,k3,k4⟩:=g
  rcases h with h | ⟨i,i1,i2,i3,i4⟩
  · exact ⟨k,k1,k2,by rw [h k k1 k2];exact k3,fun j h1 h2=>by rw [h j h1 (by omega)];exact k4 j h1 h2⟩
  · rcases Nat.lt_trichotomy i k with e | e | e
    · exact ⟨i,i1,i2,by rw [← k4 i i1 e];exact i3,fun j h1 h2=>by rw [i4 j h1 h2];exact k4 j h1 (by omega)⟩
    · subst e
      exact ⟨i,i1,i2,by omega,fun j h1 h2=>by rw [i4 j h1 h2];exact k4 j h1 h2⟩
    · exact ⟨k,k1,k2,by rw [i4 k k1 e];exact k3,fun j h1 h2=>by rw [i4 j h1 (by omega)];exact k4 j h1 h2⟩
theorem lexGt_ge{p q r:List Int}(g:lexGt p q)(h:lexGe q r):lexGt p r:=by
  obtain ⟨k,k1,k2,k3,k4⟩:=g
  rcases h with h | ⟨i,i1,i2,i3,i4⟩
  · exact ⟨k,k1,k2,by rw [← h k k1 k2];exact k3,fun j h1 h2=>by rw [k4 j h1 h2];exact h j h1 (by omega)⟩
  · rcases Nat.lt_trichotomy i k with e | e | e
    · exact ⟨i,i1,i2,by rw [k4 i i1 e];exact i3,fun j h1 h2=>by rw [k4 j h1 (by omega)];exact i4 j h1 h2⟩
    · subst e
      exact ⟨i,i1,i2,by omega,fun j h1 h2=>by rw [k4 j h1 h2];exact i4 j h1 h2⟩
    · exact ⟨k,k1,k2,by rw [← i4 k k1 e];exact k3,fun j h1 h2=>by rw [k4 j h1 h2];exact i4 j h1 (by omega)⟩
theorem lexGe_of{p q:List Int}(h:∀ j,1≤j→j≤60→q.getD j 0≤p.getD j 0):lexGe p q:=by
  have key:∀ n,n≤60→(∀ j,1≤j→j≤n→p.getD j 0=q.getD j 0)∨lexGt p q:=by
    intro n
    induction n with
    | zero=>intro _;exact .inl fun j h1 h2=>by omega
    | succ n ih =>
      intro hn
      rcases ih (by omega) with g | g
      · by_cases e:p.getD (n+1) 0=q.getD (n+1) 0
        · exact .inl fun j h1 h2=>by
            by_cases ej:j=n+1
            · rw [ej];exact e
            · exact g j h1 (by omega)
        · have:=h (n+1) (by omega) hn
          exact .inr ⟨n+1,by omega,hn,by omega,fun j h1 h2=>g j h1 (by omega)⟩
      · exact .inr g
  exact key 60 (Nat.le_refl _)

structure Dom (c1 c2:Cup) (x:Nat):Prop where
  tot:totalM c1 x≤totalM c2 x
  pl:lexGe (placesM c2 x) (placesM c1 x)
theorem betS_iff{c:Cup}{a b:Nat}:betS c a b=true↔totalM c b<totalM c a∨totalM c a=totalM c b∧lexGt (placesM c a) (placesM c b):=by
  unfold betS KL.betterF
  split
  · rename_i e
    rw [lexGt_iff]
    constructor
    · intro h;exact .inr ⟨e,h⟩
    · rintro (h | h)
      · omega
      · exact h.2
  · rename_i e
    rw [decide_eq_true_iff]
    constructor
    · intro h;exact .inl h
    · rintro (h | h)
      · exact h
      · exact absurd h.1 e
theorem betS_dom{c1 c2:Cup}{a b:Nat}(ha:Dom c1 c2 a)(hb:Dom c2 c1 b)(h:betS c1 a b=true):betS c2 a b=true:=by
  have t1:=ha.tot
  have t2:=hb.tot
  rw [betS_iff] at h ⊢
  rcases h with h | ⟨h1,h2⟩
  · exact .inl (by omega)
  · by_cases e:totalM c2 b<totalM c2 a
    · exact .inl e
    · exact .inr ⟨by omega,lexGt_ge (lexGe_gt ha.pl h2) hb.pl⟩

abbrev cntP(F:List (List Int))(s p:Nat):Nat:=F.countP fun r=>decide (r.getD s 0=(p:Int))
theorem places_at{c:Cup}{s p:Nat}(h1:1≤p)(h2:p≤60):(placesM c s).getD p 0=(cntP c.done s p:Int):=by
  unfold placesM KL.placesUpTo
  rw [List.getD_eq_getElem?_getD,List.getElem?_map,List.getElem?_range (by omega)]
  simp only [Option.map_some,Option.getD_some]
  unfold KL.oftenUpTo
  rw [if_neg (by omega),List.take_length]
theorem places_with{c:Cup}{F:List (List Int)}{s p:Nat}(h1:1≤p)(h2:p≤60):(placesM (withC c F) s).getD p 0=(cntP c.done s p:Int)+cntP F s p:=by
  rw [places_at h1 h2]
  show ((c.done++F).countP _:Int)=_
  rw [List.countP_append]
  exact Int.natCast_add ..
section
variable {c:Cup} {F:List (List Int)} {x:Nat}
end
end KV
end Go.Proofs
end
section
namespace Go.Proofs
open KL Go.RowKit
namespace KV

theorem srt_ext{α:Type}{r:α→α→Prop}(has:∀ a b,r a b→¬ r b a):∀ {a b:List α},a.Pairwise r→b.Pairwise r→(∀ x,x∈a↔x∈b)→a=b
  | [],[],_,_,_=>rfl
  | [],y::b,_,_,h=>by have:=(h y).2 (by simp);simp at this
  | x::a,[],_,_,h=>by have:=(h x).1 (by simp);simp at this
  | x::a,y::b,ha,hb,h=>by
    obtain ⟨a1,a2⟩:=List.pairwise_cons.1 ha
    obtain ⟨b1,b2⟩:=List.pairwise_cons.1 hb
    have e:x=y:=by
      rcases List.mem_cons.1 ((h x).1 (by simp)) with e | h1
      · exact e
      · rcases List.mem_cons.1 ((h y).2 (by simp)) with e | h2
        · exact e.symm
        · exact absurd (b1 x h1) (has _ _ (a1 y h2))
    subst e
    rw [srt_ext has a2 b2 fun z => ?_]
    constructor
    · intro hz
      rcases List.mem_cons.1 ((h z).1 (List.mem_cons_of_mem _ hz)) with e | h1
      · subst e;exact absurd (a1 z hz) (has _ _ (a1 z hz))
      · exact h1
    · intro hz
      rcases List.mem_cons.1 ((h z).2 (List.mem_cons_of_mem _ hz)) with e | h1
      · subst e;exact absurd (b1 z hz) (has _ _ (b1 z hz))
      · exact h1

theorem pos_count{α:Type}{r:α→α→Prop}{lt:α→α→Bool}(h1:∀ a b,r a b→lt a b=true)(h2:∀ a b,r a b→lt b a=false)(h3:∀ a,lt a a=false) :
    ∀ (L:List α),L.Pairwise r→∀ (j:Nat) (x:α),L[j]? = some x→L.countP (fun y=>lt y x)=j
  | [],_,j,x,h=>by simp at h
  | y::L,hp,0,x,h=>by
    obtain ⟨p1,p2⟩:=List.pairwise_cons.1 hp
    simp at h
    subst h
    rw [List.countP_eq_zero]
    intro z hz
    rcases List.mem_cons.1 hz with e | hz
    · subst e;simp [h3]
    · simp [h2 _ _ (p1 z hz)]
  | y::L,hp,j+1,x,h=>by
    obtain ⟨p1,p2⟩:=List.pairwise_cons.1 hp
    have hx:L[j]? = some x:=by simpa using h
    rw [List.countP_cons,if_pos (h1 _ _ (p1 x (List.mem_of_getElem? hx))),pos_count h1 h2 h3 L p2 j x hx]

theorem take_count{α:Type}{r:α→α→Prop}{lt:α→α→Bool}(h1:∀ a b,r a b→lt a b=true)(h2:∀ a b,r a b→lt b a=false)(h3:∀ a,lt a a=false)
    {L:List α} (hp:L.Pairwise r) (m:Nat) (x:α):x∈L.take m↔x∈L∧L.countP (fun y=>lt y x)<m:=by
  constructor
  · intro h
    obtain ⟨j,hj⟩:=List.getElem?_of_mem h
    rw [List.getElem?_take] at hj
    split at hj
    · exact ⟨List.mem_of_mem_take h,by rw [pos_count h1 h2 h3 L hp j x hj];assumption⟩
    · cases hj
  · rintro ⟨h,hc⟩
    obtain ⟨j,hj⟩:=List.getElem?_of_mem h
    rw [pos_count h1 h2 h3 L hp j x hj] at hc
    refine List.mem_of_getElem? (i:=j) ?_
    rw [List.getElem?_take,if_pos hc,hj]

def bfB(c:Cup)(s i k:Nat):Bool:=decide (scoreAt c i s<scoreAt c k s) || (decide (scoreAt c k s=scoreAt c i s) && decide (k<i))
def befM(c:Cup)(s i:Nat):Nat:=(List.range c.done.length).countP fun k=>bfB c s i k
def cntdR(c:Cup)(s n:Nat):List Int:=((List.range n).filter fun i=>decide ((befM c s i:Int)<c.be)).map fun i:Nat=>((i:Nat):Int)

theorem befM_lt{c:Cup}{s i:Nat}(h:i<c.done.length):befM c s i<c.done.length:=by
  unfold befM
  have h1:=List.countP_le_length (p:=fun k=>bfB c s i k) (l:=List.range c.done.length)
  rw [List.length_range] at h1
  rcases Nat.lt_or_ge ((List.range c.done.length).countP fun k=>bfB c s i k) c.done.length with h2 | h2
  · exact h2
  · have h3:(List.range c.done.length).countP (fun k=>bfB c s i k)=(List.range c.done.length).length:=by rw [List.length_range];omega
    have:=List.countP_eq_length.1 h3 i (List.mem_range.2 h)
    simp [bfB] at this

theorem cntd_ref(c:Cup)(s:Nat)(hb:0≤c.be):countedL c s=cntdR c s c.done.length:=by
  refine srt_ext (r:=fun a b:Int=>a<b) (fun a b h=>by omega) (cntd_lt c s) ?_ fun x => ?_
  · unfold cntdR
    rw [List.pairwise_map]
    exact ((List.pairwise_lt_range).filter _).imp fun h=>by omega
  · rw [(cntd_perm c s).mem_iff,take_count (lt:=fun y x:Int=>decide (scF c s x<scF c s y) || (decide (scF c s y=scF c s x) && decide (y<x))) ?_ ?_ ?_ (srtC_pw c s),(srtC_perm c s).mem_iff,(srtC_perm c s).countP_eq]
    · unfold cntdR KL.idx
      rw [List.mem_map,List.mem_map,List.countP_map]
      constructor
      · rintro ⟨⟨i,hi,rfl⟩,h2⟩
        have hi':=List.mem_range.1 hi
        have e:(List.range c.done.length).countP ((fun y:Int=>decide (scF c s (i:Int)<scF c s y) || (decide (scF c s y=scF c s (i:Int)) && decide (y<(i:Int)))) ∘ fun i=>((i:Nat):Int))=befM c s i:=by
          unfold befM bfB
          refine List.countP_congr fun k hk => ?_
          simp [scF]
        rw [e] at h2
        exact ⟨i,List.mem_filter.2 ⟨hi,decide_eq_true (by omega)⟩,rfl⟩
      · rintro ⟨i,hi,rfl⟩
        obtain ⟨h1,h2⟩:=List.mem_filter.1 hi
        have hi':=List.mem_range.1 h1
        have h3:=befM_lt (s:=s) hi'
        have h4:=of_decide_eq_true h2
        refine ⟨⟨i,h1,rfl⟩,?_⟩
        have e:(List.range c.done.length).countP ((fun y:Int=>decide (scF c s (i:Int)<scF c s y) || (decide (scF c s y=scF c s (i:Int)) && decide (y<(i:Int)))) ∘ fun i=>((i:Nat):Int))=befM c s i:=by
          unfold befM bfB
          refine List.countP_congr fun k hk => ?_
          simp [scF]
        rw [e]
        omega
    · intro a b h
      simp only [Bool.or_eq_true,Bool.and_eq_true,decide_eq_true_eq]
      omega
    · intro a b h
      rw [Bool.eq_false_iff]
      simp only [ne_eq,Bool.or_eq_true,Bool.and_eq_true,decide_eq_true_eq]
      omega
    · intro a;simp

theorem lex_first{p q:List Int}{i:Nat}(hi:i<60)(h:p.getD (i+1) 0≠q.getD (i+1) 0)(hb:∀ j,j<i→p.getD (j+1) 0=q.getD (j+1) 0):KL.lexFrom p q 60 1=decide (q.getD (i+1) 0<p.getD (i+1) 0):=by
  rw [Bool.eq_iff_iff,lexFrom_iff,decide_eq_true_eq]
  constructor
  · rintro ⟨k,k1,k2,k3,k4⟩
    obtain ⟨k,rfl⟩:∃ k',k=k'+1:=⟨k-1,by omega⟩
    rcases Nat.lt_trichotomy k i with e | e | e
    · have:=hb k e;omega
    · subst e;exact k3
    · exact absurd (k4 (i+1) (by omega) (by omega)) h
  · intro h2
    exact ⟨i+1,by omega,by omega,h2,fun j j1 j2=>by
      obtain ⟨j,rfl⟩:∃ j',j=j'+1:=⟨j-1,by omega⟩
      exact hb j (by omega)⟩
theorem lex_none{p q:List Int}(hb:∀ j,j<60→p.getD (j+1) 0=q.getD (j+1) 0):KL.lexFrom p q 60 1=false:=by
  rw [Bool.eq_false_iff]
  intro h
  obtain ⟨k,k1,k2,k3,_⟩:=(lexFrom_iff p q 60 1).1 h
  have:=hb (k-1) (by omega)
  rw [show k-1+1=k by omega] at this
  omega
theorem betS_self(c:Cup)(s:Nat):betS c s s=false:=by
  unfold betS KL.betterF
  rw [if_pos rfl]
  exact KL.lexFrom_same _ _ _
def bttrUp(c:Cup)(s n:Nat):Int:=1+((List.range n).countP (fun x=>betS c x s):Nat)
theorem rank_ref(c:Cup)(s:Nat):rankM c s=bttrUp c s c.sk.toNat:=by
  unfold rankM bttrUp KL.oth
  rw [List.countP_filter]
  congr 2
  refine List.countP_congr fun x hx => ?_
  by_cases e:x=s
  · subst e;simp [betS_self]
  · simp [e]
def badP(r:List Int)(p:Int):Bool:=decide (p≠0) && (decide (60<p+(r.count p:Int)-1) || r.any fun q=>decide (p<q) && decide (q≤p+(r.count p:Int)-1))
theorem clash_any(r:List Int)(h0:∀ x∈r,0≤x):KL.clashR r=r.any (badP r):=by
  cases e:r.any (badP r) with
  | false =>
    rw [KL.clash_iff r h0]
    intro p hp p0
    have h1:=List.any_eq_false.1 e p hp
    unfold badP at h1
    simp only [ne_eq,p0,not_false_eq_true,decide_true,Bool.true_and,Bool.or_eq_true,decide_eq_true_eq,not_or,Int.not_lt,List.any_eq_true,Bool.and_eq_true,not_exists,not_and] at h1
    obtain ⟨h2,h3⟩:=h1
    refine ⟨by omega,fun q hq hlt => ?_⟩
    have:=h3 q hq hlt
    omega
  | true =>
    obtain ⟨p,hp,h1⟩:=List.any_eq_true.1 e
    cases ec:KL.clashR r with
    | true=>rfl
    | false =>
      have hn:=(KL.clash_iff r h0).1 ec
      unfold badP at h1
      simp only [ne_eq,Bool.and_eq_true,decide_eq_true_eq,Bool.or_eq_true,List.any_eq_true] at h1
      obtain ⟨p0,h2⟩:=h1
      obtain ⟨n1,n2⟩:=hn p hp p0
      rcases h2 with h2 | ⟨q,hq,h3,h4⟩
      · omega
      · have:=n2 q hq h3
        omega
end KV
end Go.Proofs
end
namespace Go.Proofs
namespace KV
section
open KL
end
end KV
end Go.Proofs
section
namespace Go.Proofs
open KL Go.RowKit
namespace KV

theorem rank_one{c:Cup}{s:Nat}:rankM c s=1↔∀ o,o<c.sk.toNat→betS c o s=false:=by
  rw [rank_ref]
  unfold bttrUp
  constructor
  · intro h o ho
    have h0:(List.range c.sk.toNat).countP (fun x=>betS c x s)=0:=by omega
    have:=List.countP_eq_zero.1 h0 o (List.mem_range.2 ho)
    simpa using this
  · intro h
    have:(List.range c.sk.toNat).countP (fun x=>betS c x s)=0:=List.countP_eq_zero.2 fun o ho=>by
      rw [h o (List.mem_range.1 ho)];simp
    omega
structure Fur (c:Cup) (F:List (List Int)):Prop where
  len:(F.length:Int)=c.ra-c.done.length
  ok:KL.Valid (withC c F)
section
variable {c:Cup} {F:List (List Int)} {s:Nat}
end
end KV
end Go.Proofs
end
namespace Go.Proofs
namespace KV
section
open KL
end
section
end
section
open KL
noncomputable abbrev zU2c0:Code:=sub (cd Tryz.f43) [1,1,1,0,1,0,0]
noncomputable abbrev zU2c1:Code:=sub (cd Tryz.f43) [1,1,1,1,1,1,1,0,1,0,0,1,0,0,1,0,0]
noncomputable abbrev zU2c2:Code:=sub (cd Tryz.f43) [1,1,1,1,0,1,0,0]
noncomputable abbrev zU2c3:Code:=sub (cd Tryz.f43) [1,1,1,1,1,1,1,0,1,0,0,1,0,0,1,0,0,1,0,0,1,1,1,1,1,0,0]
noncomputable abbrev zU2c4:Code:=sub (cd Tryz.f43) [1,1,1,1,1,0,1,0,0]
noncomputable abbrev zU2c5:Code:=sub (cd Tryz.f43) [1,1,1,1,1,1,0,1,0,0]
noncomputable abbrev zU2c6:Code:=sub (cd Tryz.f43) [1,1,1,1,1,0,1,0,0,1,0,0,1,0,0]
noncomputable abbrev zU2c7:Code:=sub (cd Tryz.f43) [1,1,1,1,1,1,1,0,1,0,0]
noncomputable abbrev zU2c8:Code:=sub (cd Tryz.f114) [1,1,0,1,0,0]
theorem outs_p0{n a b:Int}(h0:n<a){base:Nat}:FV Tryz.prog 101 [(.p (intP n)),(.p (intP a)),(.p (intP b))] base (.p (blP true)) []:=by
  exact FV.fin Tryz.func101 rfl (o:=[bT,bT,bT,bT]) (l:=[_,_,_,_]) (by kernel_rfl) (gc (q_lt h0) (gc (q_lt h0) (gc (q_lt h0) (gc (q_lt h0) gn))))
theorem outs_p1{n a b:Int}{r0:Bool}(h0:a≤n)(er0:r0=(decide (n > b))){base:Nat}:FV Tryz.prog 101 [(.p (intP n)),(.p (intP a)),(.p (intP b))] base (.p (blP r0)) []:=by
  subst er0
  exact FV.fin Tryz.func101 rfl (o:=[bF,bF,bF,bF]) (l:=[_,_,_,_]) (by kernel_rfl) (gc (q_ltF h0) (gc (q_ltF h0) (gc (q_ltF h0) (gc (q_ltF h0) gn))))
def shr_S0(l:List Int)(p:Int)(i:Nat)(n:Nat):St:=⟨fr 22 [(0,(.p (intsP l))),(1,(.p (intP p))),(4,(.p (intP 0))),(5,(.p (intP (n:Int)))),(6,(.p (intP (i:Int))))],[]⟩
theorem shr_p0{l:List Int}{p:Int}{i'0 n'1:Nat}(hl0:LoopOK Tryz.prog 0 zU2c8 (shr_S0 l p 0 0) (.exit 0) (shr_S0 l p i'0 n'1)){base:Nat}:FV Tryz.prog 114 [(.p (intsP l)),(.p (intP p))] base (.p (intP (n'1:Int))) []:=by
  exact FV.fin Tryz.func114 rfl (o:=[.k 8 ⟨(rng [(2,2),(7,14)]),[],[],[]⟩ (.exit 0) (shr_S0 l p i'0 n'1)]) (l:=[_]) (by kernel_rfl) (gc hl0.code gn)
theorem shr_L0_p0{l:List Int}{p:Int}{i n:Nat}{x100:Int}{i' n':Nat}(h0:(i:Int)<(l.length:Int))(h1:l[i]? = some x100)(h2:x100=p)(h3:inR (((n+1):Nat):Int))(h4:inR (((i+1):Nat):Int))(ei':i'=(i+1))(en':n'=(n+1)):CodeOK Tryz.prog 0 zU2c8 (shr_S0 l p i n) .normal (shr_S0 l p i' n'):=by
  subst ei' en'
  exact CodeOK.fin (g:=⟨(rng [(2,2),(7,14)]),[],[],[]⟩) (o:=[bT,.x (intP x100),bT]) (l:=[_,_,_,_,_,_]) (by kernel_rfl) (gc h4 (gc h3 (gc (q_eq h2) (gc (atm intP h1) (gc (ixn intP h1) (gc (q_lt h0) gn))))))
theorem shr_L0_p1{l:List Int}{p:Int}{i n:Nat}{x100:Int}{i':Nat}(h0:(i:Int)<(l.length:Int))(h1:l[i]? = some x100)(h2:x100≠p)(h3:inR (((i+1):Nat):Int))(ei':i'=(i+1)):CodeOK Tryz.prog 0 zU2c8 (shr_S0 l p i n) .normal (shr_S0 l p i' n):=by
  subst ei'
  exact CodeOK.fin (g:=⟨(rng [(2,2),(7,14)]),[],[],[]⟩) (o:=[bT,.x (intP x100),bF]) (l:=[_,_,_,_,_]) (by kernel_rfl) (gc h3 (gc (q_ne h2) (gc (atm intP h1) (gc (ixn intP h1) (gc (q_lt h0) gn)))))
theorem shr_L0_p2{l:List Int}{p:Int}{i n:Nat}(h0:(l.length:Int)≤(i:Int)):CodeOK Tryz.prog 0 zU2c8 (shr_S0 l p i n) (.exit 0) (shr_S0 l p i n):=by
  exact CodeOK.fin (g:=⟨(rng [(2,2),(7,14)]),[],[],[]⟩) (o:=[bF]) (l:=[_]) (by kernel_rfl) (gc (q_ltF h0) gn)
def outB(n a b:Int):Bool:=decide (n<a) || decide (b<n)
theorem wi_out(n a b:Int):KL.wiB n a b = !outB n a b:=by
  unfold KL.wiB outB
  rw [Bool.eq_iff_iff]
  simp
theorem outs_ok(n a b:Int){base:Nat}:FV Tryz.prog 101 [.p (intP n),.p (intP a),.p (intP b)] base (.p (blP (outB n a b))) []:=by
  by_cases h:n<a
  · have e:outB n a b=true:=by simp [outB,h]
    rw [e];exact outs_p0 h
  · have e:outB n a b=decide (b<n):=by simp [outB,h]
    rw [e];exact outs_p1 (by omega) rfl
theorem shr_ok(l:List Int)(p:Int)(hl:l.length≤1000){base:Nat}:FV Tryz.prog 114 [.p (intsP l),.p (intP p)] base (.p (intP ((l.count p:Nat):Int))) []:=by
  have h:=LoopOK.count (P:=Tryz.prog) (k:=0) (b:=zU2c8) (e := .exit 0) (R:=shr_S0 l p l.length (l.count p)) l.length (fun i=>shr_S0 l p i ((l.take i).count p))
    (fun i hi=>by
      have hb:(l.take i).count p≤1000:=Nat.le_trans List.count_le_length (by simp;omega)
      have hc:=KL.count_snoc l p i hi
      by_cases e:l[i]=p
      · rw [if_pos e] at hc
        exact shr_L0_p0 (by omega) (List.getElem?_eq_getElem hi) e (inR_nat (by omega)) (inR_nat (by omega)) rfl hc
      · rw [if_neg e] at hc
        exact by
          rw [show (l.take (i+1)).count p=(l.take i).count p from hc]
          exact shr_L0_p1 (by omega) (List.getElem?_eq_getElem hi) e (inR_nat (by omega)) rfl)
    (by rw [List.take_length];exact shr_L0_p2 (by omega)) (by simp)
  exact shr_p0 h
def chk_S0(c:Cup)(i:Nat):St:=⟨fr 174 [(1,(.ptr 0 0)),(3,(.p (intP (i:Int))))],[some (.box 37 [(.p (intP c.sk)),(.p (intP c.ra)),(.p (intP c.be)),(.p (intsP c.pts)),(.p (rowsP c.done))])]⟩
def chk_S1(c:Cup)(i:Nat):St:=⟨fr 174 [(1,(.ptr 0 0)),(4,(.p (intP (i:Int))))],[some (.box 37 [(.p (intP c.sk)),(.p (intP c.ra)),(.p (intP c.be)),(.p (intsP c.pts)),(.p (rowsP c.done))])]⟩
def chk_S2(c:Cup)(i:Nat):St:=⟨fr 174 [(1,(.ptr 0 0)),(5,(.p (intP (i:Int))))],[some (.box 37 [(.p (intP c.sk)),(.p (intP c.ra)),(.p (intP c.be)),(.p (intsP c.pts)),(.p (rowsP c.done))])]⟩
def chk_S4(c:Cup)(i:Nat):St:=⟨fr 174 [(1,(.ptr 0 0)),(7,(.p (intP (i:Int))))],[some (.box 37 [(.p (intP c.sk)),(.p (intP c.ra)),(.p (intP c.be)),(.p (intsP c.pts)),(.p (rowsP c.done))])]⟩
def chk_S5(c:Cup)(i:Nat):St:=⟨fr 174 [(1,(.ptr 0 0)),(8,(.p (intP (i:Int))))],[some (.box 37 [(.p (intP c.sk)),(.p (intP c.ra)),(.p (intP c.be)),(.p (intsP c.pts)),(.p (rowsP c.done))])]⟩
theorem chk_p0{c:Cup}(h0:(outB c.sk (1:Int) (12:Int))=true){base:Nat}:FV Tryz.prog 43 [(.p (cupP c))] base (.p (intP 3)) []:=by
  exact FV.fin Tryz.func43 rfl (o:=[.c (.p (blP (outB c.sk (1:Int) (12:Int)))) [],bT,bT,bT,bT]) (l:=[_,_,_,_,_]) (by kernel_rfl) (gc h0 (gc h0 (gc h0 (gc h0 (gc (fk 1 (outs_ok c.sk (1:Int) (12:Int)) rfl) gn)))))
theorem chk_p1{c:Cup}(h0:(outB c.sk (1:Int) (12:Int))=false)(h1:(outB c.ra (1:Int) (20:Int))=true){base:Nat}:FV Tryz.prog 43 [(.p (cupP c))] base (.p (intP 3)) []:=by
  exact FV.fin Tryz.func43 rfl (o:=[.c (.p (blP (outB c.sk (1:Int) (12:Int)))) [],bF,bF,bF,.c (.p (blP (outB c.ra (1:Int) (20:Int)))) [],bF,bT,bT,bT,bT,bT,bT]) (l:=[_,_,_,_,_,_,_,_,_,_,_,_]) (by kernel_rfl) (gc h1 (gc h1 (gc h1 (gc h1 (gc h1 (gc h1 (gc h0 (gc (fk 1 (outs_ok c.ra (1:Int) (20:Int)) rfl) (gc h0 (gc h0 (gc h0 (gc (fk 1 (outs_ok c.sk (1:Int) (12:Int)) rfl) gn))))))))))))
theorem chk_p2{c:Cup}(h0:(outB c.sk (1:Int) (12:Int))=false)(h1:(outB c.ra (1:Int) (20:Int))=false)(h2:(outB c.be (1:Int) c.ra)=true){base:Nat}:FV Tryz.prog 43 [(.p (cupP c))] base (.p (intP 3)) []:=by
  exact FV.fin Tryz.func43 rfl (o:=[.c (.p (blP (outB c.sk (1:Int) (12:Int)))) [],bF,bF,bF,.c (.p (blP (outB c.ra (1:Int) (20:Int)))) [],bF,bF,bF,bF,bF,bF,.c (.p (blP (outB c.be (1:Int) c.ra))) [],bF,bT]) (l:=[_,_,_,_,_,_,_,_,_,_,_,_,_,_]) (by kernel_rfl) (gc h2 (gc h1 (gc (fk 1 (outs_ok c.be (1:Int) c.ra) rfl) (gc h1 (gc h1 (gc h1 (gc h1 (gc h1 (gc h0 (gc (fk 1 (outs_ok c.ra (1:Int) (20:Int)) rfl) (gc h0 (gc h0 (gc h0 (gc (fk 1 (outs_ok c.sk (1:Int) (12:Int)) rfl) gn))))))))))))))
theorem chk_p3{c:Cup}(h0:(outB c.sk (1:Int) (12:Int))=false)(h1:(outB c.ra (1:Int) (20:Int))=false)(h2:(outB c.be (1:Int) c.ra)=false)(h3:(c.pts.length:Int)<(1:Int)){base:Nat}:FV Tryz.prog 43 [(.p (cupP c))] base (.p (intP 2)) []:=by
  exact FV.fin Tryz.func43 rfl (o:=[.c (.p (blP (outB c.sk (1:Int) (12:Int)))) [],bF,bF,bF,.c (.p (blP (outB c.ra (1:Int) (20:Int)))) [],bF,bF,bF,bF,bF,bF,.c (.p (blP (outB c.be (1:Int) c.ra))) [],bF,bF,bT,bT,bT,bT,bT]) (l:=[_,_,_,_,_,_,_,_,_,_,_,_,_,_,_,_,_,_,_]) (by kernel_rfl) (gc (q_lt h3) (gc (q_lt h3) (gc (q_lt h3) (gc (q_lt h3) (gc (q_lt h3) (gc h2 (gc h1 (gc (fk 1 (outs_ok c.be (1:Int) c.ra) rfl) (gc h1 (gc h1 (gc h1 (gc h1 (gc h1 (gc h0 (gc (fk 1 (outs_ok c.ra (1:Int) (20:Int)) rfl) (gc h0 (gc h0 (gc h0 (gc (fk 1 (outs_ok c.sk (1:Int) (12:Int)) rfl) gn)))))))))))))))))))
theorem chk_p4{c:Cup}(h0:(outB c.sk (1:Int) (12:Int))=false)(h1:(outB c.ra (1:Int) (20:Int))=false)(h2:(outB c.be (1:Int) c.ra)=false)(h3:(1:Int)≤(c.pts.length:Int))(h4:(60:Int)<(c.pts.length:Int)){base:Nat}:FV Tryz.prog 43 [(.p (cupP c))] base (.p (intP 2)) []:=by
  exact FV.fin Tryz.func43 rfl (o:=[.c (.p (blP (outB c.sk (1:Int) (12:Int)))) [],bF,bF,bF,.c (.p (blP (outB c.ra (1:Int) (20:Int)))) [],bF,bF,bF,bF,bF,bF,.c (.p (blP (outB c.be (1:Int) c.ra))) [],bF,bF,bF,bF,bF,bF,bF,bT,bT,bT,bT,bT,bT,bT]) (l:=[_,_,_,_,_,_,_,_,_,_,_,_,_,_,_,_,_,_,_,_,_,_,_,_,_,_]) (by kernel_rfl) (gc (q_lt h4) (gc (q_lt h4) (gc (q_lt h4) (gc (q_lt h4) (gc (q_lt h4) (gc (q_lt h4) (gc (q_lt h4) (gc (q_ltF h3) (gc (q_ltF h3) (gc (q_ltF h3) (gc (q_ltF h3) (gc (q_ltF h3) (gc h2 (gc h1 (gc (fk 1 (outs_ok c.be (1:Int) c.ra) rfl) (gc h1 (gc h1 (gc h1 (gc h1 (gc h1 (gc h0 (gc (fk 1 (outs_ok c.ra (1:Int) (20:Int)) rfl) (gc h0 (gc h0 (gc h0 (gc (fk 1 (outs_ok c.sk (1:Int) (12:Int)) rfl) gn))))))))))))))))))))))))))
theorem chk_p5{c:Cup}(h0:(outB c.sk (1:Int) (12:Int))=false)(h1:(outB c.ra (1:Int) (20:Int))=false)(h2:(outB c.be (1:Int) c.ra)=false)(h3:(1:Int)≤(c.pts.length:Int))(h4:(c.pts.length:Int)≤(60:Int))(h5:c.ra<(c.done.length:Int)){base:Nat}:FV Tryz.prog 43 [(.p (cupP c))] base (.p (intP 2)) []:=by
  exact FV.fin Tryz.func43 rfl (o:=[.c (.p (blP (outB c.sk (1:Int) (12:Int)))) [],bF,bF,bF,.c (.p (blP (outB c.ra (1:Int) (20:Int)))) [],bF,bF,bF,bF,bF,bF,.c (.p (blP (outB c.be (1:Int) c.ra))) [],bF,bF,bF,bF,bF,bF,bF,bF,bF,bF,bF,bF,bF,bF,bT]) (l:=[_,_,_,_,_,_,_,_,_,_,_,_,_,_,_,_,_,_,_,_,_,_,_,_,_,_,_]) (by kernel_rfl) (gc (q_lt h5) (gc (q_ltF h4) (gc (q_ltF h4) (gc (q_ltF h4) (gc (q_ltF h4) (gc (q_ltF h4) (gc (q_ltF h4) (gc (q_ltF h4) (gc (q_ltF h3) (gc (q_ltF h3) (gc (q_ltF h3) (gc (q_ltF h3) (gc (q_ltF h3) (gc h2 (gc h1 (gc (fk 1 (outs_ok c.be (1:Int) c.ra) rfl) (gc h1 (gc h1 (gc h1 (gc h1 (gc h1 (gc h0 (gc (fk 1 (outs_ok c.ra (1:Int) (20:Int)) rfl) (gc h0 (gc h0 (gc h0 (gc (fk 1 (outs_ok c.sk (1:Int) (12:Int)) rfl) gn)))))))))))))))))))))))))))
theorem chk_p6{c:Cup}{i'0 i'1 i'2 i'3 i'4:Nat}(h0:(outB c.sk (1:Int) (12:Int))=false)(h1:(outB c.ra (1:Int) (20:Int))=false)(h2:(outB c.be (1:Int) c.ra)=false)(h3:(1:Int)≤(c.pts.length:Int))(h4:(c.pts.length:Int)≤(60:Int))(h5:(c.done.length:Int)≤c.ra)(hl6:LoopOK Tryz.prog 0 zU2c0 (chk_S0 c 0) (.exit 0) (chk_S0 c i'0))(hl7:LoopOK Tryz.prog 0 zU2c2 (chk_S1 c 0) (.exit 2) (chk_S1 c i'1))(hl8:LoopOK Tryz.prog 0 zU2c4 (chk_S2 c 0) (.exit 4) (chk_S2 c i'2))(hl9:LoopOK Tryz.prog 0 zU2c5 (chk_S4 c 1) (.exit 8) (chk_S4 c i'3))(hl10:LoopOK Tryz.prog 0 zU2c7 (chk_S5 c 0) (.exit 10) (chk_S5 c i'4)){base:Nat}:FV Tryz.prog 43 [(.p (cupP c))] base (.p (intP 0)) []:=by
  exact FV.fin Tryz.func43 rfl (o:=[.c (.p (blP (outB c.sk (1:Int) (12:Int)))) [],bF,bF,bF,.c (.p (blP (outB c.ra (1:Int) (20:Int)))) [],bF,bF,bF,bF,bF,bF,.c (.p (blP (outB c.be (1:Int) c.ra))) [],bF,bF,bF,bF,bF,bF,bF,bF,bF,bF,bF,bF,bF,bF,bF,.k 4 ⟨(rng [(0,1),(2,1),(14,49)]),[0],[],[]⟩ (.exit 0) (chk_S0 c i'0),.k 4 ⟨(rng [(0,1),(2,2),(14,62)]),[0],[],[]⟩ (.exit 2) (chk_S1 c i'1),.k 4 ⟨(rng [(0,1),(2,3),(6,1),(14,84)]),[0],[],[]⟩ (.exit 4) (chk_S2 c i'2),.k 4 ⟨(rng [(0,1),(2,5),(14,103)]),[0],[],[]⟩ (.exit 8) (chk_S4 c i'3),.k 4 ⟨(rng [(0,1),(2,6),(9,165)]),[0],[],[]⟩ (.exit 10) (chk_S5 c i'4)]) (l:=[_,_,_,_,_,_,_,_,_,_,_,_,_,_,_,_,_,_,_,_,_,_,_,_,_,_,_,_,_,_,_,_]) (by kernel_rfl) (gc hl10.code (gc hl9.code (gc hl8.code (gc hl7.code (gc hl6.code (gc (q_ltF h5) (gc (q_ltF h4) (gc (q_ltF h4) (gc (q_ltF h4) (gc (q_ltF h4) (gc (q_ltF h4) (gc (q_ltF h4) (gc (q_ltF h4) (gc (q_ltF h3) (gc (q_ltF h3) (gc (q_ltF h3) (gc (q_ltF h3) (gc (q_ltF h3) (gc h2 (gc h1 (gc (fk 1 (outs_ok c.be (1:Int) c.ra) rfl) (gc h1 (gc h1 (gc h1 (gc h1 (gc h1 (gc h0 (gc (fk 1 (outs_ok c.ra (1:Int) (20:Int)) rfl) (gc h0 (gc h0 (gc h0 (gc (fk 1 (outs_ok c.sk (1:Int) (12:Int)) rfl) gn))))))))))))))))))))))))))))))))
theorem chk_p7{c:Cup}{i'0 i'1 i'2 i'3 i'4:Nat}(h0:(outB c.sk (1:Int) (12:Int))=false)(h1:(outB c.ra (1:Int) (20:Int))=false)(h2:(outB c.be (1:Int) c.ra)=false)(h3:(1:Int)≤(c.pts.length:Int))(h4:(c.pts.length:Int)≤(60:Int))(h5:(c.done.length:Int)≤c.ra)(hl6:LoopOK Tryz.prog 0 zU2c0 (chk_S0 c 0) (.exit 0) (chk_S0 c i'0))(hl7:LoopOK Tryz.prog 0 zU2c2 (chk_S1 c 0) (.exit 2) (chk_S1 c i'1))(hl8:LoopOK Tryz.prog 0 zU2c4 (chk_S2 c 0) (.exit 4) (chk_S2 c i'2))(hl9:LoopOK Tryz.prog 0 zU2c5 (chk_S4 c 1) (.exit 8) (chk_S4 c i'3))(hl10:LoopOK Tryz.prog 0 zU2c7 (chk_S5 c 0) .ret (setS (chk_S5 c i'4) [(2,(.p (intP 7)))])){base:Nat}:FV Tryz.prog 43 [(.p (cupP c))] base (.p (intP 7)) []:=by
  exact FV.fin Tryz.func43 rfl (o:=[.c (.p (blP (outB c.sk (1:Int) (12:Int)))) [],bF,bF,bF,.c (.p (blP (outB c.ra (1:Int) (20:Int)))) [],bF,bF,bF,bF,bF,bF,.c (.p (blP (outB c.be (1:Int) c.ra))) [],bF,bF,bF,bF,bF,bF,bF,bF,bF,bF,bF,bF,bF,bF,bF,.k 4 ⟨(rng [(0,1),(2,1),(14,49)]),[0],[],[]⟩ (.exit 0) (chk_S0 c i'0),.k 4 ⟨(rng [(0,1),(2,2),(14,62)]),[0],[],[]⟩ (.exit 2) (chk_S1 c i'1),.k 4 ⟨(rng [(0,1),(2,3),(6,1),(14,84)]),[0],[],[]⟩ (.exit 4) (chk_S2 c i'2),.k 4 ⟨(rng [(0,1),(2,5),(14,103)]),[0],[],[]⟩ (.exit 8) (chk_S4 c i'3),.k 4 ⟨(rng [(0,1),(2,6),(9,165)]),[0],[],[]⟩ .ret (setS (chk_S5 c i'4) [(2,(.p (intP 7)))])]) (l:=[_,_,_,_,_,_,_,_,_,_,_,_,_,_,_,_,_,_,_,_,_,_,_,_,_,_,_,_,_,_,_,_]) (by kernel_rfl) (gc hl10.code (gc hl9.code (gc hl8.code (gc hl7.code (gc hl6.code (gc (q_ltF h5) (gc (q_ltF h4) (gc (q_ltF h4) (gc (q_ltF h4) (gc (q_ltF h4) (gc (q_ltF h4) (gc (q_ltF h4) (gc (q_ltF h4) (gc (q_ltF h3) (gc (q_ltF h3) (gc (q_ltF h3) (gc (q_ltF h3) (gc (q_ltF h3) (gc h2 (gc h1 (gc (fk 1 (outs_ok c.be (1:Int) c.ra) rfl) (gc h1 (gc h1 (gc h1 (gc h1 (gc h1 (gc h0 (gc (fk 1 (outs_ok c.ra (1:Int) (20:Int)) rfl) (gc h0 (gc h0 (gc h0 (gc (fk 1 (outs_ok c.sk (1:Int) (12:Int)) rfl) gn))))))))))))))))))))))))))))))))
theorem chk_p8{c:Cup}{i'0 i'1 i'2 i'3:Nat}(h0:(outB c.sk (1:Int) (12:Int))=false)(h1:(outB c.ra (1:Int) (20:Int))=false)(h2:(outB c.be (1:Int) c.ra)=false)(h3:(1:Int)≤(c.pts.length:Int))(h4:(c.pts.length:Int)≤(60:Int))(h5:(c.done.length:Int)≤c.ra)(hl6:LoopOK Tryz.prog 0 zU2c0 (chk_S0 c 0) (.exit 0) (chk_S0 c i'0))(hl7:LoopOK Tryz.prog 0 zU2c2 (chk_S1 c 0) (.exit 2) (chk_S1 c i'1))(hl8:LoopOK Tryz.prog 0 zU2c4 (chk_S2 c 0) (.exit 4) (chk_S2 c i'2))(hl9:LoopOK Tryz.prog 0 zU2c5 (chk_S4 c 1) .ret (setS (chk_S4 c i'3) [(2,(.p (intP 4)))])){base:Nat}:FV Tryz.prog 43 [(.p (cupP c))] base (.p (intP 4)) []:=by
  exact FV.fin Tryz.func43 rfl (o:=[.c (.p (blP (outB c.sk (1:Int) (12:Int)))) [],bF,bF,bF,.c (.p (blP (outB c.ra (1:Int) (20:Int)))) [],bF,bF,bF,bF,bF,bF,.c (.p (blP (outB c.be (1:Int) c.ra))) [],bF,bF,bF,bF,bF,bF,bF,bF,bF,bF,bF,bF,bF,bF,bF,.k 4 ⟨(rng [(0,1),(2,1),(14,49)]),[0],[],[]⟩ (.exit 0) (chk_S0 c i'0),.k 4 ⟨(rng [(0,1),(2,2),(14,62)]),[0],[],[]⟩ (.exit 2) (chk_S1 c i'1),.k 4 ⟨(rng [(0,1),(2,3),(6,1),(14,84)]),[0],[],[]⟩ (.exit 4) (chk_S2 c i'2),.k 4 ⟨(rng [(0,1),(2,5),(14,103)]),[0],[],[]⟩ .ret (setS (chk_S4 c i'3) [(2,(.p (intP 4)))])]) (l:=[_,_,_,_,_,_,_,_,_,_,_,_,_,_,_,_,_,_,_,_,_,_,_,_,_,_,_,_,_,_,_]) (by kernel_rfl) (gc hl9.code (gc hl8.code (gc hl7.code (gc hl6.code (gc (q_ltF h5) (gc (q_ltF h4) (gc (q_ltF h4) (gc (q_ltF h4) (gc (q_ltF h4) (gc (q_ltF h4) (gc (q_ltF h4) (gc (q_ltF h4) (gc (q_ltF h3) (gc (q_ltF h3) (gc (q_ltF h3) (gc (q_ltF h3) (gc (q_ltF h3) (gc h2 (gc h1 (gc (fk 1 (outs_ok c.be (1:Int) c.ra) rfl) (gc h1 (gc h1 (gc h1 (gc h1 (gc h1 (gc h0 (gc (fk 1 (outs_ok c.ra (1:Int) (20:Int)) rfl) (gc h0 (gc h0 (gc h0 (gc (fk 1 (outs_ok c.sk (1:Int) (12:Int)) rfl) gn)))))))))))))))))))))))))))))))
theorem chk_p9{c:Cup}{i'0 i'1 i'2:Nat}(h0:(outB c.sk (1:Int) (12:Int))=false)(h1:(outB c.ra (1:Int) (20:Int))=false)(h2:(outB c.be (1:Int) c.ra)=false)(h3:(1:Int)≤(c.pts.length:Int))(h4:(c.pts.length:Int)≤(60:Int))(h5:(c.done.length:Int)≤c.ra)(hl6:LoopOK Tryz.prog 0 zU2c0 (chk_S0 c 0) (.exit 0) (chk_S0 c i'0))(hl7:LoopOK Tryz.prog 0 zU2c2 (chk_S1 c 0) (.exit 2) (chk_S1 c i'1))(hl8:LoopOK Tryz.prog 0 zU2c4 (chk_S2 c 0) .ret (setS (chk_S2 c i'2) [(2,(.p (intP 3)))])){base:Nat}:FV Tryz.prog 43 [(.p (cupP c))] base (.p (intP 3)) []:=by
  exact FV.fin Tryz.func43 rfl (o:=[.c (.p (blP (outB c.sk (1:Int) (12:Int)))) [],bF,bF,bF,.c (.p (blP (outB c.ra (1:Int) (20:Int)))) [],bF,bF,bF,bF,bF,bF,.c (.p (blP (outB c.be (1:Int) c.ra))) [],bF,bF,bF,bF,bF,bF,bF,bF,bF,bF,bF,bF,bF,bF,bF,.k 4 ⟨(rng [(0,1),(2,1),(14,49)]),[0],[],[]⟩ (.exit 0) (chk_S0 c i'0),.k 4 ⟨(rng [(0,1),(2,2),(14,62)]),[0],[],[]⟩ (.exit 2) (chk_S1 c i'1),.k 4 ⟨(rng [(0,1),(2,3),(6,1),(14,84)]),[0],[],[]⟩ .ret (setS (chk_S2 c i'2) [(2,(.p (intP 3)))])]) (l:=[_,_,_,_,_,_,_,_,_,_,_,_,_,_,_,_,_,_,_,_,_,_,_,_,_,_,_,_,_,_]) (by kernel_rfl) (gc hl8.code (gc hl7.code (gc hl6.code (gc (q_ltF h5) (gc (q_ltF h4) (gc (q_ltF h4) (gc (q_ltF h4) (gc (q_ltF h4) (gc (q_ltF h4) (gc (q_ltF h4) (gc (q_ltF h4) (gc (q_ltF h3) (gc (q_ltF h3) (gc (q_ltF h3) (gc (q_ltF h3) (gc (q_ltF h3) (gc h2 (gc h1 (gc (fk 1 (outs_ok c.be (1:Int) c.ra) rfl) (gc h1 (gc h1 (gc h1 (gc h1 (gc h1 (gc h0 (gc (fk 1 (outs_ok c.ra (1:Int) (20:Int)) rfl) (gc h0 (gc h0 (gc h0 (gc (fk 1 (outs_ok c.sk (1:Int) (12:Int)) rfl) gn))))))))))))))))))))))))))))))
theorem chk_p10{c:Cup}{i'0 i'1:Nat}(h0:(outB c.sk (1:Int) (12:Int))=false)(h1:(outB c.ra (1:Int) (20:Int))=false)(h2:(outB c.be (1:Int) c.ra)=false)(h3:(1:Int)≤(c.pts.length:Int))(h4:(c.pts.length:Int)≤(60:Int))(h5:(c.done.length:Int)≤c.ra)(hl6:LoopOK Tryz.prog 0 zU2c0 (chk_S0 c 0) (.exit 0) (chk_S0 c i'0))(hl7:LoopOK Tryz.prog 0 zU2c2 (chk_S1 c 0) .ret (setS (chk_S1 c i'1) [(2,(.p (intP 3)))])){base:Nat}:FV Tryz.prog 43 [(.p (cupP c))] base (.p (intP 3)) []:=by
  exact FV.fin Tryz.func43 rfl (o:=[.c (.p (blP (outB c.sk (1:Int) (12:Int)))) [],bF,bF,bF,.c (.p (blP (outB c.ra (1:Int) (20:Int)))) [],bF,bF,bF,bF,bF,bF,.c (.p (blP (outB c.be (1:Int) c.ra))) [],bF,bF,bF,bF,bF,bF,bF,bF,bF,bF,bF,bF,bF,bF,bF,.k 4 ⟨(rng [(0,1),(2,1),(14,49)]),[0],[],[]⟩ (.exit 0) (chk_S0 c i'0),.k 4 ⟨(rng [(0,1),(2,2),(14,62)]),[0],[],[]⟩ .ret (setS (chk_S1 c i'1) [(2,(.p (intP 3)))])]) (l:=[_,_,_,_,_,_,_,_,_,_,_,_,_,_,_,_,_,_,_,_,_,_,_,_,_,_,_,_,_]) (by kernel_rfl) (gc hl7.code (gc hl6.code (gc (q_ltF h5) (gc (q_ltF h4) (gc (q_ltF h4) (gc (q_ltF h4) (gc (q_ltF h4) (gc (q_ltF h4) (gc (q_ltF h4) (gc (q_ltF h4) (gc (q_ltF h3) (gc (q_ltF h3) (gc (q_ltF h3) (gc (q_ltF h3) (gc (q_ltF h3) (gc h2 (gc h1 (gc (fk 1 (outs_ok c.be (1:Int) c.ra) rfl) (gc h1 (gc h1 (gc h1 (gc h1 (gc h1 (gc h0 (gc (fk 1 (outs_ok c.ra (1:Int) (20:Int)) rfl) (gc h0 (gc h0 (gc h0 (gc (fk 1 (outs_ok c.sk (1:Int) (12:Int)) rfl) gn)))))))))))))))))))))))))))))
theorem chk_p11{c:Cup}{i'0:Nat}(h0:(outB c.sk (1:Int) (12:Int))=false)(h1:(outB c.ra (1:Int) (20:Int))=false)(h2:(outB c.be (1:Int) c.ra)=false)(h3:(1:Int)≤(c.pts.length:Int))(h4:(c.pts.length:Int)≤(60:Int))(h5:(c.done.length:Int)≤c.ra)(hl6:LoopOK Tryz.prog 0 zU2c0 (chk_S0 c 0) .ret (setS (chk_S0 c i'0) [(2,(.p (intP 2)))])){base:Nat}:FV Tryz.prog 43 [(.p (cupP c))] base (.p (intP 2)) []:=by
  exact FV.fin Tryz.func43 rfl (o:=[.c (.p (blP (outB c.sk (1:Int) (12:Int)))) [],bF,bF,bF,.c (.p (blP (outB c.ra (1:Int) (20:Int)))) [],bF,bF,bF,bF,bF,bF,.c (.p (blP (outB c.be (1:Int) c.ra))) [],bF,bF,bF,bF,bF,bF,bF,bF,bF,bF,bF,bF,bF,bF,bF,.k 4 ⟨(rng [(0,1),(2,1),(14,49)]),[0],[],[]⟩ .ret (setS (chk_S0 c i'0) [(2,(.p (intP 2)))])]) (l:=[_,_,_,_,_,_,_,_,_,_,_,_,_,_,_,_,_,_,_,_,_,_,_,_,_,_,_,_]) (by kernel_rfl) (gc hl6.code (gc (q_ltF h5) (gc (q_ltF h4) (gc (q_ltF h4) (gc (q_ltF h4) (gc (q_ltF h4) (gc (q_ltF h4) (gc (q_ltF h4) (gc (q_ltF h4) (gc (q_ltF h3) (gc (q_ltF h3) (gc (q_ltF h3) (gc (q_ltF h3) (gc (q_ltF h3) (gc h2 (gc h1 (gc (fk 1 (outs_ok c.be (1:Int) c.ra) rfl) (gc h1 (gc h1 (gc h1 (gc h1 (gc h1 (gc h0 (gc (fk 1 (outs_ok c.ra (1:Int) (20:Int)) rfl) (gc h0 (gc h0 (gc h0 (gc (fk 1 (outs_ok c.sk (1:Int) (12:Int)) rfl) gn))))))))))))))))))))))))))))
theorem chk_L0_p0{c:Cup}{i:Nat}{x100:List Int}(h0:(i:Int)<(c.done.length:Int))(h1:c.done[i]? = some x100)(h2:(x100.length:Int)≠c.sk):CodeOK Tryz.prog 0 zU2c0 (chk_S0 c i) .ret (setS (chk_S0 c i) [(2,(.p (intP 2)))]):=by
  exact CodeOK.fin (g:=⟨(rng [(0,1),(14,49)]),[0],[],[]⟩) (o:=[bT,.x (intsP x100),bT]) (l:=[_,_,_,_]) (by kernel_rfl) (gc (q_neT h2) (gc (atm intsP h1) (gc (ixn intsP h1) (gc (q_lt h0) gn))))
theorem chk_L0_p1{c:Cup}{i:Nat}{x100:List Int}{i':Nat}(h0:(i:Int)<(c.done.length:Int))(h1:c.done[i]? = some x100)(h2:(x100.length:Int)=c.sk)(h3:inR (((i+1):Nat):Int))(ei':i'=(i+1)):CodeOK Tryz.prog 0 zU2c0 (chk_S0 c i) .normal (chk_S0 c i'):=by
  subst ei'
  exact CodeOK.fin (g:=⟨(rng [(0,1),(2,1),(14,49)]),[0],[],[]⟩) (o:=[bT,.x (intsP x100),bF]) (l:=[_,_,_,_,_]) (by kernel_rfl) (gc h3 (gc (q_neF h2) (gc (atm intsP h1) (gc (ixn intsP h1) (gc (q_lt h0) gn)))))
theorem chk_L0_p2{c:Cup}{i:Nat}(h0:(c.done.length:Int)≤(i:Int)):CodeOK Tryz.prog 0 zU2c0 (chk_S0 c i) (.exit 0) (chk_S0 c i):=by
  exact CodeOK.fin (g:=⟨(rng [(0,1),(2,1),(14,49)]),[0],[],[]⟩) (o:=[bF]) (l:=[_]) (by kernel_rfl) (gc (q_ltF h0) gn)
theorem chk_L1_p0{c:Cup}{i:Nat}{x200:Int}(h0:(i:Int)<(c.pts.length:Int))(h1:c.pts[i]? = some x200)(h2:(outB x200 (0:Int) (1000:Int))=true):CodeOK Tryz.prog 0 zU2c2 (chk_S1 c i) .ret (setS (chk_S1 c i) [(2,(.p (intP 3)))]):=by
  exact CodeOK.fin (g:=⟨(rng [(0,1),(3,1),(14,62)]),[0],[],[]⟩) (o:=[bT,.x (intP x200),.c (.p (blP (outB x200 (0:Int) (1000:Int)))) [],bT]) (l:=[_,_,_,_,_]) (by kernel_rfl) (gc h2 (gc (fk 1 (outs_ok x200 (0:Int) (1000:Int)) rfl) (gc (atm intP h1) (gc (ixn intP h1) (gc (q_lt h0) gn)))))
theorem chk_L1_p1{c:Cup}{i:Nat}{x200:Int}{i':Nat}(h0:(i:Int)<(c.pts.length:Int))(h1:c.pts[i]? = some x200)(h2:(outB x200 (0:Int) (1000:Int))=false)(h3:inR (((i+1):Nat):Int))(ei':i'=(i+1)):CodeOK Tryz.prog 0 zU2c2 (chk_S1 c i) .normal (chk_S1 c i'):=by
  subst ei'
  exact CodeOK.fin (g:=⟨(rng [(0,1),(2,2),(14,62)]),[0],[],[]⟩) (o:=[bT,.x (intP x200),.c (.p (blP (outB x200 (0:Int) (1000:Int)))) [],bF]) (l:=[_,_,_,_,_,_]) (by kernel_rfl) (gc h3 (gc h2 (gc (fk 1 (outs_ok x200 (0:Int) (1000:Int)) rfl) (gc (atm intP h1) (gc (ixn intP h1) (gc (q_lt h0) gn))))))
theorem chk_L1_p2{c:Cup}{i:Nat}(h0:(c.pts.length:Int)≤(i:Int)):CodeOK Tryz.prog 0 zU2c2 (chk_S1 c i) (.exit 2) (chk_S1 c i):=by
  exact CodeOK.fin (g:=⟨(rng [(0,1),(2,2),(14,62)]),[0],[],[]⟩) (o:=[bF]) (l:=[_]) (by kernel_rfl) (gc (q_ltF h0) gn)
def chk_S3(c:Cup)(i:Nat)(s:Nat):St:=⟨fr 174 [(1,(.ptr 0 0)),(5,(.p (intP (i:Int)))),(6,(.p (intP (s:Int)))),(76,(.p (intP (i:Int)))),(77,(.ptr 0 4)),(78,(.p (rowsP c.done))),(79,(.p (intP (c.done.length:Int)))),(80,(.p (blP (decide ((i:Int)<(c.done.length:Int))))))],[some (.box 37 [(.p (intP c.sk)),(.p (intP c.ra)),(.p (intP c.be)),(.p (intsP c.pts)),(.p (rowsP c.done))])]⟩
theorem chk_L2_p0{c:Cup}{i s'300 i':Nat}(h0:(i:Int)<(c.done.length:Int))(hl1:LoopOK Tryz.prog 0 zU2c6 (chk_S3 c i 0) (.exit 6) (chk_S3 c i s'300))(h2:inR (((i+1):Nat):Int))(ei':i'=(i+1)):CodeOK Tryz.prog 0 zU2c4 (chk_S2 c i) .normal (chk_S2 c i'):=by
  subst ei'
  exact CodeOK.fin (g:=⟨(rng [(0,1),(2,3),(6,1),(14,84)]),[0],[],[]⟩) (o:=[bT,.k 5 ⟨(rng [(0,1),(2,3),(14,62),(83,15)]),[0],[],[]⟩ (.exit 6) (chk_S3 c i s'300)]) (l:=[_,_,_]) (by kernel_rfl) (gc h2 (gc hl1.code (gc (q_lt h0) gn)))
theorem chk_L2_p1{c:Cup}{i s'300:Nat}(h0:(i:Int)<(c.done.length:Int))(hl1:LoopOK Tryz.prog 0 zU2c6 (chk_S3 c i 0) .ret (setS (chk_S3 c i s'300) [(2,(.p (intP 3)))])):CodeOK Tryz.prog 0 zU2c4 (chk_S2 c i) .ret (setS (chk_S2 c i) [(2,(.p (intP 3)))]):=by
  exact CodeOK.fin (g:=⟨(rng [(0,1),(3,2),(6,1),(14,84)]),[0],[],[]⟩) (o:=[bT,.k 5 ⟨(rng [(0,1),(2,3),(14,62),(83,15)]),[0],[],[]⟩ .ret (setS (chk_S3 c i s'300) [(2,(.p (intP 3)))])]) (l:=[_,_]) (by kernel_rfl) (gc hl1.code (gc (q_lt h0) gn))
theorem chk_L2_p2{c:Cup}{i:Nat}(h0:(c.done.length:Int)≤(i:Int)):CodeOK Tryz.prog 0 zU2c4 (chk_S2 c i) (.exit 4) (chk_S2 c i):=by
  exact CodeOK.fin (g:=⟨(rng [(0,1),(2,3),(6,1),(14,84)]),[0],[],[]⟩) (o:=[bF]) (l:=[_]) (by kernel_rfl) (gc (q_ltF h0) gn)
theorem chk_L4_p0{c:Cup}{i:Nat}{x500 x501:Int}(h0:(i:Int)<(c.pts.length:Int))(h1:c.pts[i]? = some x500)(h2:inR ((i:Int)-(1:Int)))(h3:c.pts[((i:Int)-(1:Int)).toNat]? = some x501)(h4:0≤((i:Int)-(1:Int)))(h5:x501<x500):CodeOK Tryz.prog 0 zU2c5 (chk_S4 c i) .ret (setS (chk_S4 c i) [(2,(.p (intP 4)))]):=by
  exact CodeOK.fin (g:=⟨(rng [(0,1),(3,4),(14,103)]),[0],[],[]⟩) (o:=[bT,.x (intP x500),.x (intP x501),bT]) (l:=[_,(c.pts.map intP)[(((i:Int)-(1:Int)).toNat*1)]? = some (intP x501),_,_,_,_,_]) (by kernel_rfl) (gc (q_lt h5) (gc (at_map (i:=((i:Int)-(1:Int)).toNat) h3) (gc (ix_map (g:=intP) h4 h3) (gc h2 (gc (atm intP h1) (gc (ixn intP h1) (gc (q_lt h0) gn)))))))
theorem chk_L4_p1{c:Cup}{i:Nat}{x500 x501:Int}{i':Nat}(h0:(i:Int)<(c.pts.length:Int))(h1:c.pts[i]? = some x500)(h2:inR ((i:Int)-(1:Int)))(h3:c.pts[((i:Int)-(1:Int)).toNat]? = some x501)(h4:0≤((i:Int)-(1:Int)))(h5:x500≤x501)(h6:inR (((i+1):Nat):Int))(ei':i'=(i+1)):CodeOK Tryz.prog 0 zU2c5 (chk_S4 c i) .normal (chk_S4 c i'):=by
  subst ei'
  exact CodeOK.fin (g:=⟨(rng [(0,1),(2,5),(14,103)]),[0],[],[]⟩) (o:=[bT,.x (intP x500),.x (intP x501),bF]) (l:=[_,_,(c.pts.map intP)[(((i:Int)-(1:Int)).toNat*1)]? = some (intP x501),_,_,_,_,_]) (by kernel_rfl) (gc h6 (gc (q_ltF h5) (gc (at_map (i:=((i:Int)-(1:Int)).toNat) h3) (gc (ix_map (g:=intP) h4 h3) (gc h2 (gc (atm intP h1) (gc (ixn intP h1) (gc (q_lt h0) gn))))))))
theorem chk_L4_p2{c:Cup}{i:Nat}(h0:(c.pts.length:Int)≤(i:Int)):CodeOK Tryz.prog 0 zU2c5 (chk_S4 c i) (.exit 8) (chk_S4 c i):=by
  exact CodeOK.fin (g:=⟨(rng [(0,1),(2,5),(14,103)]),[0],[],[]⟩) (o:=[bF]) (l:=[_]) (by kernel_rfl) (gc (q_ltF h0) gn)
def chk_S6(c:Cup)(i:Nat)(s:Nat):St:=⟨fr 174 [(1,(.ptr 0 0)),(8,(.p (intP (i:Int)))),(9,(.p (intP (s:Int)))),(117,(.p (intP (i:Int)))),(118,(.ptr 0 4)),(119,(.p (rowsP c.done))),(120,(.p (intP (c.done.length:Int)))),(121,(.p (blP (decide ((i:Int)<(c.done.length:Int))))))],[some (.box 37 [(.p (intP c.sk)),(.p (intP c.ra)),(.p (intP c.be)),(.p (intsP c.pts)),(.p (rowsP c.done))])]⟩
theorem chk_L5_p0{c:Cup}{i s'600 i':Nat}(h0:(i:Int)<(c.done.length:Int))(hl1:LoopOK Tryz.prog 0 zU2c1 (chk_S6 c i 0) (.exit 12) (chk_S6 c i s'600))(h2:inR (((i+1):Nat):Int))(ei':i'=(i+1)):CodeOK Tryz.prog 0 zU2c7 (chk_S5 c i) .normal (chk_S5 c i'):=by
  subst ei'
  exact CodeOK.fin (g:=⟨(rng [(0,1),(2,6),(9,165)]),[0],[],[]⟩) (o:=[bT,.k 5 ⟨(rng [(0,1),(2,6),(10,107),(124,50)]),[0],[],[]⟩ (.exit 12) (chk_S6 c i s'600)]) (l:=[_,_,_]) (by kernel_rfl) (gc h2 (gc hl1.code (gc (q_lt h0) gn)))
theorem chk_L5_p1{c:Cup}{i s'600:Nat}(h0:(i:Int)<(c.done.length:Int))(hl1:LoopOK Tryz.prog 0 zU2c1 (chk_S6 c i 0) .ret (setS (chk_S6 c i s'600) [(2,(.p (intP 7)))])):CodeOK Tryz.prog 0 zU2c7 (chk_S5 c i) .ret (setS (chk_S5 c i) [(2,(.p (intP 7)))]):=by
  exact CodeOK.fin (g:=⟨(rng [(0,1),(3,5),(9,165)]),[0],[],[]⟩) (o:=[bT,.k 5 ⟨(rng [(0,1),(2,6),(10,107),(124,50)]),[0],[],[]⟩ .ret (setS (chk_S6 c i s'600) [(2,(.p (intP 7)))])]) (l:=[_,_]) (by kernel_rfl) (gc hl1.code (gc (q_lt h0) gn))
theorem chk_L5_p2{c:Cup}{i:Nat}(h0:(c.done.length:Int)≤(i:Int)):CodeOK Tryz.prog 0 zU2c7 (chk_S5 c i) (.exit 10) (chk_S5 c i):=by
  exact CodeOK.fin (g:=⟨(rng [(0,1),(2,6),(9,165)]),[0],[],[]⟩) (o:=[bF]) (l:=[_]) (by kernel_rfl) (gc (q_ltF h0) gn)
theorem chk_L3_p0{c:Cup}{i s:Nat}{x400:List Int}{x401:Int}(h0:(s:Int)<c.sk)(h1:c.done[i]? = some x400)(h2:x400[s]? = some x401)(h3:(outB x401 (0:Int) (60:Int))=true):CodeOK Tryz.prog 0 zU2c6 (chk_S3 c i s) .ret (setS (chk_S3 c i s) [(2,(.p (intP 3)))]):=by
  exact CodeOK.fin (g:=⟨(rng [(0,1),(3,2),(14,62),(83,15)]),[0],[],[]⟩) (o:=[bT,.x (intsP x400),.x (intP x401),.c (.p (blP (outB x401 (0:Int) (60:Int)))) [],bT]) (l:=[_,_,_,_,_,_,_]) (by kernel_rfl) (gc h3 (gc (fk 1 (outs_ok x401 (0:Int) (60:Int)) rfl) (gc (atm intP h2) (gc (ixn intP h2) (gc (atm intsP h1) (gc (ixn intsP h1) (gc (q_lt h0) gn)))))))
theorem chk_L3_p1{c:Cup}{i s:Nat}{x400:List Int}{x401:Int}{s':Nat}(h0:(s:Int)<c.sk)(h1:c.done[i]? = some x400)(h2:x400[s]? = some x401)(h3:(outB x401 (0:Int) (60:Int))=false)(h4:inR (((s+1):Nat):Int))(es':s'=(s+1)):CodeOK Tryz.prog 0 zU2c6 (chk_S3 c i s) .normal (chk_S3 c i s'):=by
  subst es'
  exact CodeOK.fin (g:=⟨(rng [(0,1),(2,3),(14,62),(83,15)]),[0],[],[]⟩) (o:=[bT,.x (intsP x400),.x (intP x401),.c (.p (blP (outB x401 (0:Int) (60:Int)))) [],bF]) (l:=[_,_,_,_,_,_,_,_]) (by kernel_rfl) (gc h4 (gc h3 (gc (fk 1 (outs_ok x401 (0:Int) (60:Int)) rfl) (gc (atm intP h2) (gc (ixn intP h2) (gc (atm intsP h1) (gc (ixn intsP h1) (gc (q_lt h0) gn))))))))
theorem chk_L3_p2{c:Cup}{i s:Nat}(h0:c.sk≤(s:Int)):CodeOK Tryz.prog 0 zU2c6 (chk_S3 c i s) (.exit 6) (chk_S3 c i s):=by
  exact CodeOK.fin (g:=⟨(rng [(0,1),(2,3),(14,62),(83,15)]),[0],[],[]⟩) (o:=[bF]) (l:=[_]) (by kernel_rfl) (gc (q_ltF h0) gn)
def chk_S7(c:Cup)(i:Nat)(s:Nat)(x700:List Int)(x701:Int)(o:Nat):St:=⟨fr 174 [(1,(.ptr 0 0)),(8,(.p (intP (i:Int)))),(9,(.p (intP (s:Int)))),(10,(.p (intP x701))),(11,(.p (intP ((x701+(((x700.count x701):Nat):Int))-(1:Int))))),(12,(.p (intP (o:Int)))),(117,(.p (intP (i:Int)))),(118,(.ptr 0 4)),(119,(.p (rowsP c.done))),(120,(.p (intP (c.done.length:Int)))),(121,(.p (blP (decide ((i:Int)<(c.done.length:Int)))))),(124,(.p (intP (s:Int)))),(125,(.ptr 0 0)),(126,(.p (intP c.sk))),(127,(.p (blP (decide ((s:Int)<c.sk))))),(130,(.ptr 0 4)),(131,(.p (rowsP c.done))),(132,(.p (intP (i:Int)))),(133,(.rp (c.done.map intsP) (i*1))),(134,(.p (intsP x700))),(135,(.p (intP (s:Int)))),(136,(.rp (x700.map intP) (s*1))),(137,(.p (intP x701))),(138,(.p (intP x701))),(139,(.p (blP (x701 == (0:Int))))),(140,(.p (intP x701))),(141,(.ptr 0 4)),(142,(.p (rowsP c.done))),(143,(.p (intP (i:Int)))),(144,(.rp (c.done.map intsP) (i*1))),(145,(.p (intsP x700))),(146,(.p (intP x701))),(147,(.p (intP (((x700.count x701):Nat):Int)))),(148,(.p (intP (x701+(((x700.count x701):Nat):Int))))),(149,(.p (intP ((x701+(((x700.count x701):Nat):Int))-(1:Int))))),(150,(.p (intP ((x701+(((x700.count x701):Nat):Int))-(1:Int))))),(151,(.p (blP (decide (((x701+(((x700.count x701):Nat):Int))-(1:Int)) > (60:Int))))))],[some (.box 37 [(.p (intP c.sk)),(.p (intP c.ra)),(.p (intP c.be)),(.p (intsP c.pts)),(.p (rowsP c.done))])]⟩
theorem chk_L6_p0{c:Cup}{i s:Nat}{x700:List Int}{x701:Int}{s':Nat}(h0:(s:Int)<c.sk)(h1:c.done[i]? = some x700)(h2:x700[s]? = some x701)(h3:x701=(0:Int))(h4:inR (((s+1):Nat):Int))(es':s'=(s+1)):CodeOK Tryz.prog 0 zU2c1 (chk_S6 c i s) .normal (chk_S6 c i s'):=by
  subst es'
  exact CodeOK.fin (g:=⟨(rng [(0,1),(2,6),(10,107),(124,50)]),[0],[],[]⟩) (o:=[bT,.x (intsP x700),.x (intP x701),bT]) (l:=[_,_,_,_,_,_,_]) (by kernel_rfl) (gc h4 (gc (q_eq h3) (gc (atm intP h2) (gc (ixn intP h2) (gc (atm intsP h1) (gc (ixn intsP h1) (gc (q_lt h0) gn)))))))
theorem chk_L6_p1{c:Cup}{i s:Nat}{x700:List Int}{x701:Int}(h0:(s:Int)<c.sk)(h1:c.done[i]? = some x700)(h2:x700[s]? = some x701)(h3:x701≠(0:Int))(h4:x700.length≤1000)(h5:inR (x701+(((x700.count x701):Nat):Int)))(h6:inR ((x701+(((x700.count x701):Nat):Int))-(1:Int)))(h7:(60:Int)<((x701+(((x700.count x701):Nat):Int))-(1:Int))):CodeOK Tryz.prog 0 zU2c1 (chk_S6 c i s) .ret (setS (chk_S6 c i s) [(2,(.p (intP 7)))]):=by
  exact CodeOK.fin (g:=⟨(rng [(0,1),(3,5),(10,107),(124,50)]),[0],[],[]⟩) (o:=[bT,.x (intsP x700),.x (intP x701),bF,.x (intsP x700),.c (.p (intP (((x700.count x701):Nat):Int))) [],bT]) (l:=[_,_,_,_,_,_,_,_,_,_,_,_]) (by kernel_rfl) (gc (q_lt h7) (gc h6 (gc h5 (gc (fk 1 (shr_ok x700 x701 h4) rfl) (gc (atm intsP h1) (gc (ixn intsP h1) (gc (q_ne h3) (gc (atm intP h2) (gc (ixn intP h2) (gc (atm intsP h1) (gc (ixn intsP h1) (gc (q_lt h0) gn))))))))))))
theorem chk_L6_p2{c:Cup}{i s:Nat}{x700:List Int}{x701:Int}{o'702 s':Nat}(h0:(s:Int)<c.sk)(h1:c.done[i]? = some x700)(h2:x700[s]? = some x701)(h3:x701≠(0:Int))(h4:x700.length≤1000)(h5:inR (x701+(((x700.count x701):Nat):Int)))(h6:inR ((x701+(((x700.count x701):Nat):Int))-(1:Int)))(h7:((x701+(((x700.count x701):Nat):Int))-(1:Int))≤(60:Int))(hl8:LoopOK Tryz.prog 0 zU2c3 (chk_S7 c i s x700 x701 0) (.exit 14) (chk_S7 c i s x700 x701 o'702))(h9:inR (((s+1):Nat):Int))(es':s'=(s+1)):CodeOK Tryz.prog 0 zU2c1 (chk_S6 c i s) .normal (chk_S6 c i s'):=by
  subst es'
  exact CodeOK.fin (g:=⟨(rng [(0,1),(2,6),(10,107),(124,50)]),[0],[],[]⟩) (o:=[bT,.x (intsP x700),.x (intP x701),bF,.x (intsP x700),.c (.p (intP (((x700.count x701):Nat):Int))) [],bF,.k 3 ⟨(rng [(0,1),(2,6),(13,104),(152,22)]),[0],[],[]⟩ (.exit 14) (chk_S7 c i s x700 x701 o'702)]) (l:=[_,_,_,_,_,_,_,_,_,_,_,_,_,_]) (by kernel_rfl) (gc h9 (gc hl8.code (gc (q_ltF h7) (gc h6 (gc h5 (gc (fk 1 (shr_ok x700 x701 h4) rfl) (gc (atm intsP h1) (gc (ixn intsP h1) (gc (q_ne h3) (gc (atm intP h2) (gc (ixn intP h2) (gc (atm intsP h1) (gc (ixn intsP h1) (gc (q_lt h0) gn))))))))))))))
theorem chk_L6_p3{c:Cup}{i s:Nat}{x700:List Int}{x701:Int}{o'702:Nat}(h0:(s:Int)<c.sk)(h1:c.done[i]? = some x700)(h2:x700[s]? = some x701)(h3:x701≠(0:Int))(h4:x700.length≤1000)(h5:inR (x701+(((x700.count x701):Nat):Int)))(h6:inR ((x701+(((x700.count x701):Nat):Int))-(1:Int)))(h7:((x701+(((x700.count x701):Nat):Int))-(1:Int))≤(60:Int))(hl8:LoopOK Tryz.prog 0 zU2c3 (chk_S7 c i s x700 x701 0) .ret (setS (chk_S7 c i s x700 x701 o'702) [(2,(.p (intP 7)))])):CodeOK Tryz.prog 0 zU2c1 (chk_S6 c i s) .ret (setS (chk_S6 c i s) [(2,(.p (intP 7)))]):=by
  exact CodeOK.fin (g:=⟨(rng [(0,1),(3,5),(10,107),(124,50)]),[0],[],[]⟩) (o:=[bT,.x (intsP x700),.x (intP x701),bF,.x (intsP x700),.c (.p (intP (((x700.count x701):Nat):Int))) [],bF,.k 3 ⟨(rng [(0,1),(2,6),(13,104),(152,22)]),[0],[],[]⟩ .ret (setS (chk_S7 c i s x700 x701 o'702) [(2,(.p (intP 7)))])]) (l:=[_,_,_,_,_,_,_,_,_,_,_,_,_]) (by kernel_rfl) (gc hl8.code (gc (q_ltF h7) (gc h6 (gc h5 (gc (fk 1 (shr_ok x700 x701 h4) rfl) (gc (atm intsP h1) (gc (ixn intsP h1) (gc (q_ne h3) (gc (atm intP h2) (gc (ixn intP h2) (gc (atm intsP h1) (gc (ixn intsP h1) (gc (q_lt h0) gn)))))))))))))
theorem chk_L6_p4{c:Cup}{i s:Nat}(h0:c.sk≤(s:Int)):CodeOK Tryz.prog 0 zU2c1 (chk_S6 c i s) (.exit 12) (chk_S6 c i s):=by
  exact CodeOK.fin (g:=⟨(rng [(0,1),(2,6),(10,107),(124,50)]),[0],[],[]⟩) (o:=[bF]) (l:=[_]) (by kernel_rfl) (gc (q_ltF h0) gn)
theorem chk_L7_p0{c:Cup}{i s:Nat}{x700:List Int}{x701:Int}{o:Nat}{x800:List Int}{x801:Int}(h0:(o:Int)<c.sk)(h1:c.done[i]? = some x800)(h2:x800[o]? = some x801)(h3:x701<x801)(h4:x801≤((x701+(((x700.count x701):Nat):Int))-(1:Int))):CodeOK Tryz.prog 0 zU2c3 (chk_S7 c i s x700 x701 o) .ret (setS (chk_S7 c i s x700 x701 o) [(2,(.p (intP 7)))]):=by
  exact CodeOK.fin (g:=⟨(rng [(0,1),(3,5),(13,104),(152,22)]),[0],[],[]⟩) (o:=[bT,.x (intsP x800),.x (intP x801),bT,bT,bT,bT,bT]) (l:=[_,_,_,_,_,_,_,_,_,_]) (by kernel_rfl) (gc (q_le h4) (gc (q_lt h3) (gc (q_lt h3) (gc (q_lt h3) (gc (q_lt h3) (gc (atm intP h2) (gc (ixn intP h2) (gc (atm intsP h1) (gc (ixn intsP h1) (gc (q_lt h0) gn))))))))))
theorem chk_L7_p1{c:Cup}{i s:Nat}{x700:List Int}{x701:Int}{o:Nat}{x800:List Int}{x801:Int}{o':Nat}(h0:(o:Int)<c.sk)(h1:c.done[i]? = some x800)(h2:x800[o]? = some x801)(h3:x701<x801)(h4:((x701+(((x700.count x701):Nat):Int))-(1:Int))<x801)(h5:inR (((o+1):Nat):Int))(eo':o'=(o+1)):CodeOK Tryz.prog 0 zU2c3 (chk_S7 c i s x700 x701 o) .normal (chk_S7 c i s x700 x701 o'):=by
  subst eo'
  exact CodeOK.fin (g:=⟨(rng [(0,1),(2,6),(13,104),(152,22)]),[0],[],[]⟩) (o:=[bT,.x (intsP x800),.x (intP x801),bT,bT,bT,bT,bF]) (l:=[_,_,_,_,_,_,_,_,_,_,_]) (by kernel_rfl) (gc h5 (gc (q_leF h4) (gc (q_lt h3) (gc (q_lt h3) (gc (q_lt h3) (gc (q_lt h3) (gc (atm intP h2) (gc (ixn intP h2) (gc (atm intsP h1) (gc (ixn intsP h1) (gc (q_lt h0) gn)))))))))))
theorem chk_L7_p2{c:Cup}{i s:Nat}{x700:List Int}{x701:Int}{o:Nat}{x800:List Int}{x801:Int}{o':Nat}(h0:(o:Int)<c.sk)(h1:c.done[i]? = some x800)(h2:x800[o]? = some x801)(h3:x801≤x701)(h4:inR (((o+1):Nat):Int))(eo':o'=(o+1)):CodeOK Tryz.prog 0 zU2c3 (chk_S7 c i s x700 x701 o) .normal (chk_S7 c i s x700 x701 o'):=by
  subst eo'
  exact CodeOK.fin (g:=⟨(rng [(0,1),(2,6),(13,104),(152,22)]),[0],[],[]⟩) (o:=[bT,.x (intsP x800),.x (intP x801),bF,bF,bF,bF]) (l:=[_,_,_,_,_,_,_,_,_,_]) (by kernel_rfl) (gc h4 (gc (q_ltF h3) (gc (q_ltF h3) (gc (q_ltF h3) (gc (q_ltF h3) (gc (atm intP h2) (gc (ixn intP h2) (gc (atm intsP h1) (gc (ixn intsP h1) (gc (q_lt h0) gn))))))))))
theorem chk_L7_p3{c:Cup}{i s:Nat}{x700:List Int}{x701:Int}{o:Nat}(h0:c.sk≤(o:Int)):CodeOK Tryz.prog 0 zU2c3 (chk_S7 c i s x700 x701 o) (.exit 14) (chk_S7 c i s x700 x701 o):=by
  exact CodeOK.fin (g:=⟨(rng [(0,1),(2,6),(13,104),(152,22)]),[0],[],[]⟩) (o:=[bF]) (l:=[_]) (by kernel_rfl) (gc (q_ltF h0) gn)
theorem falls_any(pts:List Int):KL.fallsB pts = !((List.range (pts.length-1)).any fun j=>decide (pts.getD j 0<pts.getD (j+1) 0)):=by
  unfold KL.fallsB KL.sortedB
  rw [Bool.eq_iff_iff]
  simp only [decide_eq_true_eq,Bool.not_eq_true',List.any_eq_false,List.mem_range,decide_eq_true_eq,Int.not_lt]
  constructor
  · intro h j hj
    have:=h j hj
    unfold KL.cmpDown KL.cmpI at this
    split at this
    · omega
    · split at this <;> omega
  · intro h j hj
    have:=h j hj
    unfold KL.cmpDown KL.cmpI
    repeat' split
    all_goals omega
theorem chk_eq(c:Cup):checkP c=if (outB c.sk 1 12 || outB c.ra 1 20 || outB c.be 1 c.ra)=true then 3
    else if (outB c.pts.length 1 60 || decide (c.ra<c.done.length) || c.done.any (fun r=>decide ((r.length:Int)≠c.sk)))=true then 2
    else if (c.pts.any (fun n=>outB n 0 1000) || c.done.any (fun r=>r.any fun p=>outB p 0 60))=true then 3
    else if ((List.range (c.pts.length-1)).any fun j=>decide (c.pts.getD j 0<c.pts.getD (j+1) 0))=true then 4
    else if c.done.any KL.clashR=true then 7 else 0:=by
  unfold checkP
  simp only [wi_out,Bool.not_not,List.not_all_eq_any_not,falls_any]
  congr 1
  congr 1
  congr 3
  funext r
  by_cases e:(r.length:Int)=c.sk <;> simp [e]
theorem chk_ok(c:Cup)(hS:KL.Small c){base:Nat}:FV Tryz.prog 43 [.p (cupP c)] base (.p (intP (checkP c))) []:=by
  have s1:=hS.pts
  have s2:=hS.done
  have atD:∀ (l:List Int) (j:Nat),j<l.length→l[j]? = some (l.getD j 0):=fun l j hj=>by
    rw [List.getElem?_eq_getElem hj,List.getD_eq_getElem?_getD,List.getElem?_eq_getElem hj];rfl
  rw [chk_eq]
  cases a1:outB c.sk 1 12
  case true=>rw [if_pos (by simp)];exact chk_p0 a1
  cases a2:outB c.ra 1 20
  case true=>rw [if_pos (by simp)];exact chk_p1 a1 a2
  cases a3:outB c.be 1 c.ra
  case true=>rw [if_pos (by simp)];exact chk_p2 a1 a2 a3
  rw [if_neg (by simp)]
  have k1:1≤c.sk∧c.sk≤12:=by simpa [outB] using a1
  by_cases b1:(c.pts.length:Int)<1
  · rw [if_pos (by simp [outB];omega)];exact chk_p3 a1 a2 a3 b1
  by_cases b2:60<(c.pts.length:Int)
  · rw [if_pos (by simp [outB];omega)];exact chk_p4 a1 a2 a3 (by omega) b2
  have b3:outB c.pts.length 1 60=false:=by simp [outB];omega
  rw [b3]
  by_cases b4:c.ra<(c.done.length:Int)
  · rw [if_pos (by simp [b4])];exact chk_p5 a1 a2 a3 (by omega) (by omega) b4
  rcases LoopOK.find (P:=Tryz.prog) (k:=0) (b:=zU2c0) (fun i=>chk_S0 c i) (fun i _=>setS (chk_S0 c i) [(2,.p (intP 2))]) (chk_S0 c c.done.length) .ret (.exit 0) (by simp) (by simp) (fun r=>decide ((r.length:Int)≠c.sk)) c.done
    (fun i x hx hp=>chk_L0_p1 (by have:=lt_of_at hx;omega) hx (by simpa using hp) (inR_nat (by have:=lt_of_at hx;omega)) rfl)
    (fun i x hx hp=>chk_L0_p0 (by have:=lt_of_at hx;omega) hx (by simpa using hp))
    (chk_L0_p2 (by omega)) with ⟨i,x,h1,h2,h3,h4⟩ | ⟨_,c1,L0⟩
  · have:c.done.any (fun r=>decide ((r.length:Int)≠c.sk))=true:=List.any_eq_true.2 ⟨x,List.mem_of_getElem? h1,h3⟩
    rw [if_pos (by rw [this];simp)]
    exact chk_p11 a1 a2 a3 (by omega) (by omega) (by omega) h4
  rw [c1,if_neg (by simp [b4])]
  have hlen:∀ (i:Nat) (r:List Int),c.done[i]? = some r→(r.length:Int)=c.sk:=fun i r hr=>by
    have:=List.any_eq_false.1 c1 r (List.mem_of_getElem? hr)
    simpa using this
  rcases LoopOK.find (P:=Tryz.prog) (k:=0) (b:=zU2c2) (fun i=>chk_S1 c i) (fun i _=>setS (chk_S1 c i) [(2,.p (intP 3))]) (chk_S1 c c.pts.length) .ret (.exit 2) (by simp) (by simp) (fun n=>outB n 0 1000) c.pts
    (fun i x hx hp=>chk_L1_p1 (by have:=lt_of_at hx;omega) hx hp (inR_nat (by have:=lt_of_at hx;omega)) rfl)
    (fun i x hx hp=>chk_L1_p0 (by have:=lt_of_at hx;omega) hx hp)
    (chk_L1_p2 (by omega)) with ⟨i,x,h1,h2,h3,h4⟩ | ⟨_,c2,L1⟩
  · have:c.pts.any (fun n=>outB n 0 1000)=true:=List.any_eq_true.2 ⟨x,List.mem_of_getElem? h1,h3⟩
    rw [if_pos (by rw [this];simp)]
    exact chk_p10 a1 a2 a3 (by omega) (by omega) (by omega) L0 h4
  rw [c2]
  rcases LoopOK.find (P:=Tryz.prog) (k:=0) (b:=zU2c4) (fun i=>chk_S2 c i) (fun i _=>setS (chk_S2 c i) [(2,.p (intP 3))]) (chk_S2 c c.done.length) .ret (.exit 4) (by simp) (by simp) (fun r=>r.any fun p=>outB p 0 60) c.done
    (fun i x hx hp=>by
      have hi:=lt_of_at hx
      have hl:=hlen i x hx
      rcases LoopOK.find (P:=Tryz.prog) (k:=0) (b:=zU2c6) (fun s=>chk_S3 c i s) (fun s _=>setS (chk_S3 c i s) [(2,.p (intP 3))]) (chk_S3 c i x.length) .ret (.exit 6) (by simp) (by simp) (fun p=>outB p 0 60) x
        (fun s y hy hq=>chk_L3_p1 (by have:=lt_of_at hy;omega) hx hy hq (inR_nat (by have:=lt_of_at hy;omega)) rfl)
        (fun s y hy hq=>chk_L3_p0 (by have:=lt_of_at hy;omega) hx hy hq)
        (chk_L3_p2 (by omega)) with ⟨j,y,g1,g2,g3,g4⟩ | ⟨_,g1,g2⟩
      · have:x.any (fun p=>outB p 0 60)=true:=List.any_eq_true.2 ⟨y,List.mem_of_getElem? g1,g3⟩
        rw [this] at hp;cases hp
      · exact chk_L2_p0 (by omega) g2 (inR_nat (by omega)) rfl)
    (fun i x hx hp=>by
      have hi:=lt_of_at hx
      have hl:=hlen i x hx
      rcases LoopOK.find (P:=Tryz.prog) (k:=0) (b:=zU2c6) (fun s=>chk_S3 c i s) (fun s _=>setS (chk_S3 c i s) [(2,.p (intP 3))]) (chk_S3 c i x.length) .ret (.exit 6) (by simp) (by simp) (fun p=>outB p 0 60) x
        (fun s y hy hq=>chk_L3_p1 (by have:=lt_of_at hy;omega) hx hy hq (inR_nat (by have:=lt_of_at hy;omega)) rfl)
        (fun s y hy hq=>chk_L3_p0 (by have:=lt_of_at hy;omega) hx hy hq)
        (chk_L3_p2 (by omega)) with ⟨j,y,g1,g2,g3,g4⟩ | ⟨_,g1,g2⟩
      · exact chk_L2_p1 (by omega) g4
      · rw [g1] at hp;cases hp)
    (chk_L2_p2 (by omega)) with ⟨i,x,h1,h2,h3,h4⟩ | ⟨_,c3,L2⟩
  · have:c.done.any (fun r=>r.any fun p=>outB p 0 60)=true:=List.any_eq_true.2 ⟨x,List.mem_of_getElem? h1,h3⟩
    rw [if_pos (by rw [this];simp)]
    exact chk_p9 a1 a2 a3 (by omega) (by omega) (by omega) L0 L1 h4
  rw [c3,if_neg (by simp)]
  have hbd:∀ (i:Nat) (r:List Int),c.done[i]? = some r→∀ x∈r,0≤x∧x≤60:=fun i r hr x hx=>by
    have h1:=List.any_eq_false.1 c3 r (List.mem_of_getElem? hr)
    have h2:r.any (fun p=>outB p 0 60)=false:=by simpa using h1
    have h3:=List.any_eq_false.1 h2 x hx
    simpa [outB] using h3
  rcases LoopOK.find (P:=Tryz.prog) (k:=0) (b:=zU2c5) (fun i=>chk_S4 c (i+1)) (fun i _=>setS (chk_S4 c (i+1)) [(2,.p (intP 4))]) (chk_S4 c (c.pts.length-1+1)) .ret (.exit 8) (by simp) (by simp) (fun j=>decide (c.pts.getD j 0<c.pts.getD (j+1) 0)) (List.range (c.pts.length-1))
    (fun i x hx hp=>by
      obtain ⟨rfl,hi⟩:=range_at hx
      have e:(((x+1:Nat):Int)-1).toNat=x:=by omega
      exact chk_L4_p1 (x501:=c.pts.getD x 0) (by omega) (atD _ _ (by omega)) (by unfold inR;omega) (by rw [e];exact atD _ _ (by omega)) (by omega) (by simpa using hp) (inR_nat (by omega)) rfl)
    (fun i x hx hp=>by
      obtain ⟨rfl,hi⟩:=range_at hx
      have e:(((x+1:Nat):Int)-1).toNat=x:=by omega
      exact chk_L4_p0 (x501:=c.pts.getD x 0) (by omega) (atD _ _ (by omega)) (by unfold inR;omega) (by rw [e];exact atD _ _ (by omega)) (by omega) (by simpa using hp))
    (by rw [List.length_range];exact chk_L4_p2 (by omega)) with ⟨i,x,h1,h2,h3,h4⟩ | ⟨_,c4,L4⟩
  · have:((List.range (c.pts.length-1)).any fun j=>decide (c.pts.getD j 0<c.pts.getD (j+1) 0))=true:=List.any_eq_true.2 ⟨x,List.mem_of_getElem? h1,h3⟩
    rw [if_pos this]
    exact chk_p8 a1 a2 a3 (by omega) (by omega) (by omega) L0 L1 L2 h4
  rw [if_neg (by rw [c4];simp)]
  have inner:∀ (i:Nat) (x:List Int),c.done[i]? = some x→(KL.clashR x=true∧∃ s,LoopOK Tryz.prog 0 zU2c1 (chk_S6 c i 0) .ret (setS (chk_S6 c i s) [(2,.p (intP 7))]))∨(KL.clashR x=false∧∃ s,LoopOK Tryz.prog 0 zU2c1 (chk_S6 c i 0) (.exit 12) (chk_S6 c i s)):=fun i x hx=>by
    have hi:=lt_of_at hx
    have hl:=hlen i x hx
    have hb:=hbd i x hx
    have hxl:x.length≤1000:=by omega
    rw [clash_any x fun y hy=>(hb y hy).1]
    have deep:∀ (s:Nat) (p:Int),((x.any fun q=>decide (p<q) && decide (q≤p+(x.count p:Int)-1))=true∧∃ o,LoopOK Tryz.prog 0 zU2c3 (chk_S7 c i s x p 0) .ret (setS (chk_S7 c i s x p o) [(2,.p (intP 7))]))∨((x.any fun q=>decide (p<q) && decide (q≤p+(x.count p:Int)-1))=false∧∃ o,LoopOK Tryz.prog 0 zU2c3 (chk_S7 c i s x p 0) (.exit 14) (chk_S7 c i s x p o)):=fun s p=>by
      rcases LoopOK.find (P:=Tryz.prog) (k:=0) (b:=zU2c3) (fun o=>chk_S7 c i s x p o) (fun o _=>setS (chk_S7 c i s x p o) [(2,.p (intP 7))]) (chk_S7 c i s x p x.length) .ret (.exit 14) (by simp) (by simp) (fun q=>decide (p<q) && decide (q≤p+(x.count p:Int)-1)) x
        (fun o q hq hp=>by
          have ho:=lt_of_at hq
          by_cases e:p<q
          · exact chk_L7_p1 (by omega) hx hq e (by simpa [e] using hp) (inR_nat (by omega)) rfl
          · exact chk_L7_p2 (by omega) hx hq (by omega) (inR_nat (by omega)) rfl)
        (fun o q hq hp=>by
          have ho:=lt_of_at hq
          simp only [Bool.and_eq_true,decide_eq_true_eq] at hp
          exact chk_L7_p0 (by omega) hx hq hp.1 hp.2)
        (chk_L7_p3 (by omega)) with ⟨j,y,g1,g2,g3,g4⟩ | ⟨_,g1,g2⟩
      · exact .inl ⟨List.any_eq_true.2 ⟨y,List.mem_of_getElem? g1,g3⟩,_,g4⟩
      · exact .inr ⟨g1,_,g2⟩
    rcases LoopOK.find (P:=Tryz.prog) (k:=0) (b:=zU2c1) (fun s=>chk_S6 c i s) (fun s _=>setS (chk_S6 c i s) [(2,.p (intP 7))]) (chk_S6 c i x.length) .ret (.exit 12) (by simp) (by simp) (badP x) x
      (fun s p hp hq=>by
        have hs:=lt_of_at hp
        have hb1:=hb p (List.mem_of_getElem? hp)
        have hcn:x.count p≤x.length:=List.count_le_length
        by_cases e0:p=0
        · exact chk_L6_p0 (by omega) hx hp e0 (inR_nat (by omega)) rfl
        · unfold badP at hq
          simp only [ne_eq,e0,not_false_eq_true,decide_true,Bool.true_and,Bool.or_eq_false_iff] at hq
          obtain ⟨q1,q2⟩:=hq
          have q1:=of_decide_eq_false q1
          rcases deep s p with ⟨d1,o,d2⟩ | ⟨d1,o,d2⟩
          · rw [d1] at q2;cases q2
          · exact chk_L6_p2 (by omega) hx hp e0 hxl (by unfold inR;omega) (by unfold inR;omega) (by omega) d2 (inR_nat (by omega)) rfl)
      (fun s p hp hq=>by
        have hs:=lt_of_at hp
        have hb1:=hb p (List.mem_of_getElem? hp)
        have hcn:x.count p≤x.length:=List.count_le_length
        unfold badP at hq
        simp only [ne_eq,Bool.and_eq_true,decide_eq_true_eq,Bool.or_eq_true] at hq
        obtain ⟨e0,hq⟩:=hq
        by_cases q1:60<p+(x.count p:Int)-1
        · exact chk_L6_p1 (by omega) hx hp e0 hxl (by unfold inR;omega) (by unfold inR;omega) q1
        · rcases deep s p with ⟨d1,o,d2⟩ | ⟨d1,o,d2⟩
          · exact chk_L6_p3 (by omega) hx hp e0 hxl (by unfold inR;omega) (by unfold inR;omega) (by omega) d2
          · rw [d1] at hq
            rcases hq with hq | hq
            · exact absurd hq q1
            · cases hq)
      (chk_L6_p4 (by omega)) with ⟨j,y,g1,g2,g3,g4⟩ | ⟨_,g1,g2⟩
    · exact .inl ⟨List.any_eq_true.2 ⟨y,List.mem_of_getElem? g1,g3⟩,_,g4⟩
    · exact .inr ⟨g1,_,g2⟩
  rcases LoopOK.find (P:=Tryz.prog) (k:=0) (b:=zU2c7) (fun i=>chk_S5 c i) (fun i _=>setS (chk_S5 c i) [(2,.p (intP 7))]) (chk_S5 c c.done.length) .ret (.exit 10) (by simp) (by simp) KL.clashR c.done
    (fun i x hx hp=>by
      have hi:=lt_of_at hx
      rcases inner i x hx with ⟨d1,s,d2⟩ | ⟨d1,s,d2⟩
      · rw [d1] at hp;cases hp
      · exact chk_L5_p0 (by omega) d2 (inR_nat (by omega)) rfl)
    (fun i x hx hp=>by
      have hi:=lt_of_at hx
      rcases inner i x hx with ⟨d1,s,d2⟩ | ⟨d1,s,d2⟩
      · exact chk_L5_p1 (by omega) d2
      · rw [d1] at hp;cases hp)
    (chk_L5_p2 (by omega)) with ⟨i,x,h1,h2,h3,h4⟩ | ⟨_,c5,L5⟩
  · have:c.done.any KL.clashR=true:=List.any_eq_true.2 ⟨x,List.mem_of_getElem? h1,h3⟩
    rw [if_pos this]
    exact chk_p7 a1 a2 a3 (by omega) (by omega) (by omega) L0 L1 L2 L4 h4
  · rw [if_neg (by rw [c5];simp)]
    exact chk_p6 a1 a2 a3 (by omega) (by omega) (by omega) L0 L1 L2 L4 L5
end
section
open KL
noncomputable abbrev zU3c0:Code:=sub (cd Tryz.f18) [1,1,0,1,0,0]
noncomputable abbrev zU3c1:Code:=sub (cd Tryz.f53) [1,1,0,1,0,0,1,0,0,1,0,1,0,0]
noncomputable abbrev zU3c2:Code:=sub (cd Tryz.f124) [1,1,1,1,0,1,0,0]
noncomputable abbrev zU3c3:Code:=sub (cd Tryz.f53) [1,1,0,1,0,0]
noncomputable abbrev zU3c4:Code:=sub (cd Tryz.f48) [1,1,0,1,0,0]
noncomputable abbrev zU3c5:Code:=sub (cd Tryz.f116) [1,1,0,1,0,0]
noncomputable abbrev zU3c6:Code:=sub (cd Tryz.f61) [1,1,0,1,0,0]
noncomputable abbrev zU3c7:Code:=sub (cd Tryz.f52) [1,1,1,0,1,0,0]
noncomputable abbrev zU3c8:Code:=sub (cd Tryz.f46) [1,1,0,1,0,0]
def rsc_S0(c:Cup)(l:List Int)(x0:Int)(q:Int)(sm:Int):St:=⟨fr 44 [(3,(.ptr 0 0)),(6,(.p (intP 0))),(7,(.p (intP x0))),(8,(.p (intP sm))),(9,(.p (intP (((l.count x0):Nat):Int)))),(10,(.p (intP q)))],[some (.box 37 [(.p (intP c.sk)),(.p (intP c.ra)),(.p (intP c.be)),(.p (intsP c.pts)),(.p (rowsP c.done))])]⟩
theorem rsc_p0{c:Cup}{l:List Int}{k x0:Int}(h0:l[k.toNat]? = some x0)(h1:0≤k)(h2:x0=(0:Int)){base:Nat}:FV Tryz.prog 124 [(.p (cupP c)),(.p (intsP l)),(.p (intP k))] base (.p (intP 0)) []:=by
  exact FV.fin Tryz.func124 rfl (o:=[.x (intP x0),bT]) (l:=[_,(l.map intP)[(k.toNat*1)]? = some (intP x0),_]) (by kernel_rfl) (gc (q_eq h2) (gc (at_map (i:=k.toNat) h0) (gc (ix_map (g:=intP) h1 h0) gn)))
theorem rsc_p1{c:Cup}{l:List Int}{k x0 q'1 sm'2 r0:Int}(h0:l[k.toNat]? = some x0)(h1:0≤k)(h2:x0≠(0:Int))(h3:l.length≤1000)(hl4:LoopOK Tryz.prog 0 zU3c2 (rsc_S0 c l x0 x0 (0:Int)) (.exit 0) (rsc_S0 c l x0 q'1 sm'2))(h5:(((l.count x0):Nat):Int)≠0)(h6:inR (sm'2.tdiv (((l.count x0):Nat):Int)))(er0:r0=(sm'2.tdiv (((l.count x0):Nat):Int))){base:Nat}:FV Tryz.prog 124 [(.p (cupP c)),(.p (intsP l)),(.p (intP k))] base (.p (intP r0)) []:=by
  subst er0
  exact FV.fin Tryz.func124 rfl (o:=[.x (intP x0),bF,.c (.p (intP (((l.count x0):Nat):Int))) [],.k 4 ⟨(rng [(0,3),(4,2),(11,30)]),[0],[],[]⟩ (.exit 0) (rsc_S0 c l x0 q'1 sm'2)]) (l:=[_,_,_,_,_,(l.map intP)[(k.toNat*1)]? = some (intP x0),_]) (by kernel_rfl) (gc h6 (gc h5 (gc hl4.code (gc (fk 1 (shr_ok l x0 h3) rfl) (gc (q_ne h2) (gc (at_map (i:=k.toNat) h0) (gc (ix_map (g:=intP) h1 h0) gn)))))))
theorem rsc_L0_p0{c:Cup}{l:List Int}{x0 q sm x100 q' sm':Int}(h0:inR (x0+(((l.count x0):Nat):Int)))(h1:q<(x0+(((l.count x0):Nat):Int)))(h2:q≤(c.pts.length:Int))(h3:inR (q-(1:Int)))(h4:c.pts[(q-(1:Int)).toNat]? = some x100)(h5:0≤(q-(1:Int)))(h6:inR (sm+x100))(h7:inR (q+(1:Int)))(eq':q'=(q+(1:Int)))(esm':sm'=(sm+x100)):CodeOK Tryz.prog 0 zU3c2 (rsc_S0 c l x0 q sm) .normal (rsc_S0 c l x0 q' sm'):=by
  subst eq' esm'
  exact CodeOK.fin (g:=⟨(rng [(0,3),(4,2),(11,30)]),[0],[],[]⟩) (o:=[bT,bT,.x (intP x100)]) (l:=[_,_,(c.pts.map intP)[((q-(1:Int)).toNat*1)]? = some (intP x100),_,_,_,_,_]) (by kernel_rfl) (gc h7 (gc h6 (gc (at_map (i:=(q-(1:Int)).toNat) h4) (gc (ix_map (g:=intP) h5 h4) (gc h3 (gc (q_le h2) (gc (q_lt h1) (gc h0 gn))))))))
theorem rsc_L0_p1{c:Cup}{l:List Int}{x0 q sm q':Int}(h0:inR (x0+(((l.count x0):Nat):Int)))(h1:q<(x0+(((l.count x0):Nat):Int)))(h2:(c.pts.length:Int)<q)(h3:inR (q+(1:Int)))(eq':q'=(q+(1:Int))):CodeOK Tryz.prog 0 zU3c2 (rsc_S0 c l x0 q sm) .normal (rsc_S0 c l x0 q' sm):=by
  subst eq'
  exact CodeOK.fin (g:=⟨(rng [(0,3),(4,2),(11,30)]),[0],[],[]⟩) (o:=[bT,bF]) (l:=[_,_,_,_]) (by kernel_rfl) (gc h3 (gc (q_leF h2) (gc (q_lt h1) (gc h0 gn))))
theorem rsc_L0_p2{c:Cup}{l:List Int}{x0 q sm:Int}(h0:inR (x0+(((l.count x0):Nat):Int)))(h1:(x0+(((l.count x0):Nat):Int))≤q):CodeOK Tryz.prog 0 zU3c2 (rsc_S0 c l x0 q sm) (.exit 0) (rsc_S0 c l x0 q sm):=by
  exact CodeOK.fin (g:=⟨(rng [(0,3),(4,2),(11,30)]),[0],[],[]⟩) (o:=[bF]) (l:=[_,_]) (by kernel_rfl) (gc (q_ltF h1) (gc h0 gn))
theorem rsc_ok(c:Cup)(l:List Int)(k:Int)(hV:KL.Valid c)(hl:l.length≤1000)(hb:∀ x∈l,0≤x∧x≤60)(hk:0≤k∧k<l.length){base:Nat}:FV Tryz.prog 124 [.p (cupP c),.p (intsP l),.p (intP k)] base (.p (intP (scoreM c.pts l k.toNat))) []:=by
  have hp:=hV.pt2
  obtain ⟨x,hx⟩:∃ x,l[k.toNat]? = some x:=⟨l[k.toNat]'(by omega),List.getElem?_eq_getElem (by omega)⟩
  have hg:l.getD k.toNat 0=x:=by rw [List.getD_eq_getElem?_getD,hx];rfl
  have hxb:=hb x (List.mem_of_getElem? hx)
  unfold scoreM
  rw [hg]
  by_cases h0:x=0
  · rw [if_pos h0];exact rsc_p0 hx hk.1 h0
  · rw [if_neg h0]
    have hc1:l.count x≤l.length:=List.count_le_length
    have hc2:1≤l.count x:=List.count_pos_iff.2 (List.mem_of_getElem? hx)
    have hw:∀ m,0≤KL.worthM c.pts x.toNat m∧KL.worthM c.pts x.toNat m≤1000*m:=fun m=>KL.worthM_bd _ _ _ hV.pts
    have h:=LoopOK.count (P:=Tryz.prog) (k:=0) (b:=zU3c2) (e := .exit 0) (R:=rsc_S0 c l x (x+(l.count x:Int)) (KL.worthM c.pts x.toNat (l.count x))) (l.count x) (fun j=>rsc_S0 c l x (x+(j:Int)) (KL.worthM c.pts x.toNat j))
      (fun j hj=>by
        have hw1:=hw j
        have hw2:=hw (j+1)
        have es:=KL.worth_snoc c.pts x.toNat j
        by_cases e:x+(j:Int)≤c.pts.length
        · have ei:(x+(j:Int)-1).toNat=x.toNat-1+j:=by omega
          have ea:c.pts[(x+(j:Int)-1).toNat]? = some (c.pts.getD (x.toNat-1+j) 0):=by
            rw [ei,List.getD_eq_getElem?_getD,List.getElem?_eq_getElem (by omega)];rfl
          exact rsc_L0_p0 (by unfold inR;omega) (by omega) e (by unfold inR;omega) ea (by omega) (by rw [← es];unfold inR;omega) (by unfold inR;omega) (by omega) es
        · have e0:c.pts.getD (x.toNat-1+j) 0=0:=by
            rw [List.getD_eq_getElem?_getD,List.getElem?_eq_none (by omega)];rfl
          rw [e0,Int.add_zero] at es
          have h1:=rsc_L0_p1 (c:=c) (l:=l) (x0:=x) (q:=x+(j:Int)) (sm:=KL.worthM c.pts x.toNat j) (q':=x+((j+1:Nat):Int)) (by unfold inR;omega) (by omega) (by omega) (by unfold inR;omega) (by omega)
          have key:∀ w,w=KL.worthM c.pts x.toNat j→CodeOK Tryz.prog 0 zU3c2 (rsc_S0 c l x (x+(j:Int)) (KL.worthM c.pts x.toNat j)) .normal (rsc_S0 c l x (x+((j+1:Nat):Int)) w):=by rintro _ rfl;exact h1
          exact key _ es)
      (rsc_L0_p2 (by unfold inR;omega) (by omega)) (by simp)
    have w0:KL.worthM c.pts x.toNat 0=0:=by unfold KL.worthM;simp
    rw [show x+((0:Nat):Int)=x by omega,w0] at h
    have hd:(KL.worthM c.pts x.toNat (l.count x)).tdiv (l.count x:Int)=KL.worthM c.pts x.toNat (l.count x) / (l.count x:Int):=Int.tdiv_eq_ediv_of_nonneg (hw _).1
    have d1:=Int.ediv_nonneg (hw (l.count x)).1 (show (0:Int)≤(l.count x:Int) by omega)
    have d2:=Int.ediv_le_self (l.count x:Int) (hw (l.count x)).1
    have d3:=(hw (l.count x)).2
    exact rsc_p1 hx hk.1 h0 hl h (by omega) (by rw [hd];unfold inR;omega) hd.symm
def rcn_S0(c:Cup)(k:Int)(i:Nat)(on:Nat)(oc:List PV):St:=⟨fr 65 [(1,(.p (intP k))),(2,(.ptr 0 0)),(4,(.p nilS)),(5,(.own 1)),(6,(.p (intP (i:Int))))],[some (.box 37 [(.p (intP c.sk)),(.p (intP c.ra)),(.p (intP c.be)),(.p (intsP c.pts)),(.p (rowsP c.done))]),some (.row 3 on oc)]⟩
theorem rcn_p0{c:Cup}{k:Int}{i'0:Nat}{o'1:List Int}(hl0:LoopOK Tryz.prog 0 zU3c3 (rcn_S0 c k 0 0 []) (.exit 0) (rcn_S0 c k i'0 o'1.length (o'1.map intP))){base:Nat}:FV Tryz.prog 53 [(.p (cupP c)),(.p (intP k))] base (.p (intsP o'1)) []:=by
  exact FV.frz (FMM.fin (k:=0) (g:=⟨[],[],[1],[]⟩) rfl Tryz.func53 rfl (o:=[.k 8 ⟨(rng [(0,1),(3,1),(7,57)]),[0,1],[],[(5,3)]⟩ (.exit 0) (rcn_S0 c k i'0 o'1.length (o'1.map intP))]) (l:=[_]) (by kernel_rfl) (gc hl0.code gn)) (by kernel_rfl)
def rcn_S1(c:Cup)(k:Int)(i:Nat)(o:List Int)(j:Nat)(n:Nat):St:=⟨fr 65 [(1,(.p (intP k))),(2,(.ptr 0 0)),(4,(.p nilS)),(5,(.own 1)),(6,(.p (intP (i:Int)))),(7,(.p (intP (n:Int)))),(8,(.p (intP (j:Int)))),(11,(.p (intP (i:Int)))),(12,(.ptr 0 4)),(13,(.p (rowsP c.done))),(14,(.p (intP (c.done.length:Int)))),(15,(.p (blP (decide ((i:Int)<(c.done.length:Int))))))],[some (.box 37 [(.p (intP c.sk)),(.p (intP c.ra)),(.p (intP c.be)),(.p (intsP c.pts)),(.p (rowsP c.done))]),some (.row 3 o.length (o.map intP))]⟩
theorem rcn_L0_p0{c:Cup}{k:Int}{i:Nat}{o:List Int}{j'100 n'101 i':Nat}{o':List Int}(h0:(i:Int)<(c.done.length:Int))(hl1:LoopOK Tryz.prog 0 zU3c1 (rcn_S1 c k i o 0 0) (.exit 2) (rcn_S1 c k i o j'100 n'101))(h2:(n'101:Int)<c.be)(h3:[(intP (i:Int))].length=1*1∧o.length+1≤1000000)(h4:inR (((i+1):Nat):Int))(ei':i'=(i+1))(eo'n:o'.length=(o.length+1))(eo'c:o'.map intP=((o.map intP)++[(intP (i:Int))])):CodeOK Tryz.prog 0 zU3c3 (rcn_S0 c k i o.length (o.map intP)) .normal (rcn_S0 c k i' o'.length (o'.map intP)):=by
  subst ei'
  have raw:CodeOK Tryz.prog 0 zU3c3 (rcn_S0 c k i o.length (o.map intP)) .normal (rcn_S0 c k (i+1) (o.length+1) ((o.map intP)++[(intP (i:Int))])):=CodeOK.fin (g:=⟨(rng [(0,1),(3,1),(7,57)]),[0,3],[],[]⟩) (o:=[bT,.k 8 ⟨(rng [(0,1),(3,1),(9,2),(18,38)]),[0,1],[],[]⟩ (.exit 2) (rcn_S1 c k i o j'100 n'101),bT]) (l:=[_,_,_,_,_]) (by kernel_rfl) (gc h4 (gc h3 (gc (q_lt h2) (gc hl1.code (gc (q_lt h0) gn)))))
  exact raw.cast (by rw [eo'n,eo'c])
theorem rcn_L0_p1{c:Cup}{k:Int}{i:Nat}{o:List Int}{j'100 n'101 i':Nat}(h0:(i:Int)<(c.done.length:Int))(hl1:LoopOK Tryz.prog 0 zU3c1 (rcn_S1 c k i o 0 0) (.exit 2) (rcn_S1 c k i o j'100 n'101))(h2:c.be≤(n'101:Int))(h3:inR (((i+1):Nat):Int))(ei':i'=(i+1)):CodeOK Tryz.prog 0 zU3c3 (rcn_S0 c k i o.length (o.map intP)) .normal (rcn_S0 c k i' o.length (o.map intP)):=by
  subst ei'
  exact CodeOK.fin (g:=⟨(rng [(0,1),(3,1),(7,57)]),[0,1],[],[]⟩) (o:=[bT,.k 8 ⟨(rng [(0,1),(3,1),(9,2),(18,38)]),[0,1],[],[]⟩ (.exit 2) (rcn_S1 c k i o j'100 n'101),bF]) (l:=[_,_,_,_]) (by kernel_rfl) (gc h3 (gc (q_ltF h2) (gc hl1.code (gc (q_lt h0) gn))))
theorem rcn_L0_p2{c:Cup}{k:Int}{i:Nat}{o:List Int}(h0:(c.done.length:Int)≤(i:Int)):CodeOK Tryz.prog 0 zU3c3 (rcn_S0 c k i o.length (o.map intP)) (.exit 0) (rcn_S0 c k i o.length (o.map intP)):=by
  exact CodeOK.fin (g:=⟨(rng [(0,1),(3,1),(7,57)]),[0,1],[],[]⟩) (o:=[bF]) (l:=[_]) (by kernel_rfl) (gc (q_ltF h0) gn)
theorem rcn_L1_p0{c:Cup}{k:Int}{i:Nat}{o:List Int}{j n:Nat}{x200 x201:List Int}{j' n':Nat}(h0:(j:Int)<(c.done.length:Int))(h1:c.done[i]? = some x200)(h2:KL.Valid c)(h3:x200.length≤1000)(h4:∀ x∈x200,0≤x∧x≤60)(h5:0≤k∧k<x200.length)(h6:c.done[j]? = some x201)(h7:x201.length≤1000)(h8:∀ x∈x201,0≤x∧x≤60)(h9:0≤k∧k<x201.length)(h10:(scoreM c.pts x200 k.toNat)<(scoreM c.pts x201 k.toNat))(h11:inR (((n+1):Nat):Int))(h12:inR (((j+1):Nat):Int))(ej':j'=(j+1))(en':n'=(n+1)):CodeOK Tryz.prog 0 zU3c1 (rcn_S1 c k i o j n) .normal (rcn_S1 c k i o j' n'):=by
  subst ej' en'
  exact CodeOK.fin (g:=⟨(rng [(0,1),(3,1),(9,2),(18,38)]),[0,1],[],[]⟩) (o:=[bT,.x (intsP x200),.c (.p (intP (scoreM c.pts x200 k.toNat))) [],.x (intsP x201),.c (.p (intP (scoreM c.pts x201 k.toNat))) [],bT,bT,bT,bT,bT,bT]) (l:=[_,_,_,_,_,_,_,_,_,_,_,_,_,_,_]) (by kernel_rfl) (gc h12 (gc h11 (gc (q_lt h10) (gc (q_lt h10) (gc (q_lt h10) (gc (q_lt h10) (gc (q_lt h10) (gc (q_lt h10) (gc (fk 6 (rsc_ok c x201 k h2 h7 h8 h9) rfl) (gc (atm intsP h6) (gc (ixn intsP h6) (gc (fk 2 (rsc_ok c x200 k h2 h3 h4 h5) rfl) (gc (atm intsP h1) (gc (ixn intsP h1) (gc (q_lt h0) gn)))))))))))))))
theorem rcn_L1_p1{c:Cup}{k:Int}{i:Nat}{o:List Int}{j n:Nat}{x200 x201:List Int}{j' n':Nat}(h0:(j:Int)<(c.done.length:Int))(h1:c.done[i]? = some x200)(h2:KL.Valid c)(h3:x200.length≤1000)(h4:∀ x∈x200,0≤x∧x≤60)(h5:0≤k∧k<x200.length)(h6:c.done[j]? = some x201)(h7:x201.length≤1000)(h8:∀ x∈x201,0≤x∧x≤60)(h9:0≤k∧k<x201.length)(h10:(scoreM c.pts x201 k.toNat)≤(scoreM c.pts x200 k.toNat))(h11:(scoreM c.pts x201 k.toNat)=(scoreM c.pts x200 k.toNat))(h12:(j:Int)<(i:Int))(h13:inR (((n+1):Nat):Int))(h14:inR (((j+1):Nat):Int))(ej':j'=(j+1))(en':n'=(n+1)):CodeOK Tryz.prog 0 zU3c1 (rcn_S1 c k i o j n) .normal (rcn_S1 c k i o j' n'):=by
  subst ej' en'
  exact CodeOK.fin (g:=⟨(rng [(0,1),(3,1),(9,2),(18,38)]),[0,1],[],[]⟩) (o:=[bT,.x (intsP x200),.c (.p (intP (scoreM c.pts x200 k.toNat))) [],.x (intsP x201),.c (.p (intP (scoreM c.pts x201 k.toNat))) [],bF,bF,bF,bF,bT,bT,bT,bF,bT,bF,bT]) (l:=[_,_,_,_,_,_,_,_,_,_,_,_,_,_,_,_,_,_,_,_]) (by kernel_rfl) (gc h14 (gc h13 (gc (q_lt h12) (gc (q_ltF h10) (gc (q_eq h11) (gc (q_ltF h10) (gc (q_eq h11) (gc (q_eq h11) (gc (q_eq h11) (gc (q_ltF h10) (gc (q_ltF h10) (gc (q_ltF h10) (gc (q_ltF h10) (gc (fk 6 (rsc_ok c x201 k h2 h7 h8 h9) rfl) (gc (atm intsP h6) (gc (ixn intsP h6) (gc (fk 2 (rsc_ok c x200 k h2 h3 h4 h5) rfl) (gc (atm intsP h1) (gc (ixn intsP h1) (gc (q_lt h0) gn))))))))))))))))))))
theorem rcn_L1_p2{c:Cup}{k:Int}{i:Nat}{o:List Int}{j n:Nat}{x200 x201:List Int}{j':Nat}(h0:(j:Int)<(c.done.length:Int))(h1:c.done[i]? = some x200)(h2:KL.Valid c)(h3:x200.length≤1000)(h4:∀ x∈x200,0≤x∧x≤60)(h5:0≤k∧k<x200.length)(h6:c.done[j]? = some x201)(h7:x201.length≤1000)(h8:∀ x∈x201,0≤x∧x≤60)(h9:0≤k∧k<x201.length)(h10:(scoreM c.pts x201 k.toNat)≤(scoreM c.pts x200 k.toNat))(h11:(scoreM c.pts x201 k.toNat)=(scoreM c.pts x200 k.toNat))(h12:(i:Int)≤(j:Int))(h13:inR (((j+1):Nat):Int))(ej':j'=(j+1)):CodeOK Tryz.prog 0 zU3c1 (rcn_S1 c k i o j n) .normal (rcn_S1 c k i o j' n):=by
  subst ej'
  exact CodeOK.fin (g:=⟨(rng [(0,1),(3,1),(9,2),(18,38)]),[0,1],[],[]⟩) (o:=[bT,.x (intsP x200),.c (.p (intP (scoreM c.pts x200 k.toNat))) [],.x (intsP x201),.c (.p (intP (scoreM c.pts x201 k.toNat))) [],bF,bF,bF,bF,bT,bT,bT,bF,bT,bF,bF]) (l:=[_,_,_,_,_,_,_,_,_,_,_,_,_,_,_,_,_,_,_]) (by kernel_rfl) (gc h13 (gc (q_ltF h12) (gc (q_ltF h10) (gc (q_eq h11) (gc (q_ltF h10) (gc (q_eq h11) (gc (q_eq h11) (gc (q_eq h11) (gc (q_ltF h10) (gc (q_ltF h10) (gc (q_ltF h10) (gc (q_ltF h10) (gc (fk 6 (rsc_ok c x201 k h2 h7 h8 h9) rfl) (gc (atm intsP h6) (gc (ixn intsP h6) (gc (fk 2 (rsc_ok c x200 k h2 h3 h4 h5) rfl) (gc (atm intsP h1) (gc (ixn intsP h1) (gc (q_lt h0) gn)))))))))))))))))))
theorem rcn_L1_p3{c:Cup}{k:Int}{i:Nat}{o:List Int}{j n:Nat}{x200 x201:List Int}{j':Nat}(h0:(j:Int)<(c.done.length:Int))(h1:c.done[i]? = some x200)(h2:KL.Valid c)(h3:x200.length≤1000)(h4:∀ x∈x200,0≤x∧x≤60)(h5:0≤k∧k<x200.length)(h6:c.done[j]? = some x201)(h7:x201.length≤1000)(h8:∀ x∈x201,0≤x∧x≤60)(h9:0≤k∧k<x201.length)(h10:(scoreM c.pts x201 k.toNat)≤(scoreM c.pts x200 k.toNat))(h11:(scoreM c.pts x201 k.toNat)≠(scoreM c.pts x200 k.toNat))(h12:inR (((j+1):Nat):Int))(ej':j'=(j+1)):CodeOK Tryz.prog 0 zU3c1 (rcn_S1 c k i o j n) .normal (rcn_S1 c k i o j' n):=by
  subst ej'
  exact CodeOK.fin (g:=⟨(rng [(0,1),(3,1),(9,2),(18,38)]),[0,1],[],[]⟩) (o:=[bT,.x (intsP x200),.c (.p (intP (scoreM c.pts x200 k.toNat))) [],.x (intsP x201),.c (.p (intP (scoreM c.pts x201 k.toNat))) [],bF,bF,bF,bF,bF,bF,bF,bF,bF,bF]) (l:=[_,_,_,_,_,_,_,_,_,_,_,_,_,_,_,_,_,_]) (by kernel_rfl) (gc h12 (gc (q_ltF h10) (gc (q_ne h11) (gc (q_ltF h10) (gc (q_ne h11) (gc (q_ne h11) (gc (q_ne h11) (gc (q_ltF h10) (gc (q_ltF h10) (gc (q_ltF h10) (gc (q_ltF h10) (gc (fk 6 (rsc_ok c x201 k h2 h7 h8 h9) rfl) (gc (atm intsP h6) (gc (ixn intsP h6) (gc (fk 2 (rsc_ok c x200 k h2 h3 h4 h5) rfl) (gc (atm intsP h1) (gc (ixn intsP h1) (gc (q_lt h0) gn))))))))))))))))))
theorem rcn_L1_p4{c:Cup}{k:Int}{i:Nat}{o:List Int}{j n:Nat}(h0:(c.done.length:Int)≤(j:Int)):CodeOK Tryz.prog 0 zU3c1 (rcn_S1 c k i o j n) (.exit 2) (rcn_S1 c k i o j n):=by
  exact CodeOK.fin (g:=⟨(rng [(0,1),(3,1),(9,2),(18,38)]),[0,1],[],[]⟩) (o:=[bF]) (l:=[_]) (by kernel_rfl) (gc (q_ltF h0) gn)
theorem cntdR_succ(c:Cup)(s n:Nat):cntdR c s (n+1)=cntdR c s n++if (befM c s n:Int)<c.be then [(n:Int)] else []:=by
  unfold cntdR
  rw [List.range_succ,List.filter_append,List.map_append]
  by_cases e:(befM c s n:Int)<c.be
  · rw [if_pos e,List.filter_cons_of_pos (by simpa using e)];rfl
  · rw [if_neg e,List.filter_cons_of_neg (by simpa using e)];rfl
theorem cntdR_len(c:Cup)(s n:Nat):(cntdR c s n).length≤n:=by
  unfold cntdR
  rw [List.length_map]
  exact Nat.le_trans (List.length_filter_le _ _) (by simp)
theorem rcn_ok(c:Cup)(k:Int)(hV:KL.Valid c)(hk:0≤k∧k<c.sk){base:Nat}:FV Tryz.prog 53 [.p (cupP c),.p (intP k)] base (.p (intsP (countedL c k.toNat))) []:=by
  have s1:=hV.sk1
  have hd:=hV.small.done
  have b1:=hV.be1
  have hS:=hV.sk2
  have row:∀ i,i<c.done.length→∃ x,c.done[i]? = some x∧x.length≤1000∧(∀ y∈x,0≤y∧y≤60)∧(0≤k∧k<x.length)∧scoreM c.pts x k.toNat=scoreAt c i k.toNat:=fun i hi=>by
    have hx:=List.getElem?_eq_getElem hi
    have hm:=List.mem_of_getElem? hx
    have hl:=hV.len _ hm
    refine ⟨_,hx,by omega,hV.rows _ hm,⟨hk.1,by omega⟩,?_⟩
    unfold scoreAt
    rw [List.getD_eq_getElem?_getD,hx];rfl
  have inner:∀ i,i<c.done.length→∀ o:List Int,LoopOK Tryz.prog 0 zU3c1 (rcn_S1 c k i o 0 0) (.exit 2) (rcn_S1 c k i o c.done.length (befM c k.toNat i)):=fun i hi o=>by
    obtain ⟨x,x1,x2,x3,x4,x5⟩:=row i hi
    refine LoopOK.count (P:=Tryz.prog) (k:=0) (e := .exit 2) c.done.length (fun j=>rcn_S1 c k i o j ((List.range j).countP fun q=>bfB c k.toNat i q)) (fun j hj => ?_) (rcn_L1_p4 (by omega)) (by simp)
    obtain ⟨y,y1,y2,y3,y4,y5⟩:=row j hj
    have hb:((List.range j).countP fun q=>bfB c k.toNat i q)≤j:=by
      have:=List.countP_le_length (p:=fun q=>bfB c k.toNat i q) (l:=List.range j)
      simpa using this
    have es:((List.range (j+1)).countP fun q=>bfB c k.toNat i q)=((List.range j).countP fun q=>bfB c k.toNat i q)+if bfB c k.toNat i j=true then 1 else 0:=by
      rw [List.range_succ,List.countP_append,List.countP_singleton]
    by_cases e1:scoreM c.pts x k.toNat<scoreM c.pts y k.toNat
    · have eb:bfB c k.toNat i j=true:=by unfold bfB;rw [← x5,← y5];simp [e1]
      rw [if_pos eb] at es
      exact rcn_L1_p0 (by omega) x1 hV x2 x3 x4 y1 y2 y3 y4 e1 (inR_nat (by omega)) (inR_nat (by omega)) rfl es
    · by_cases e2:scoreM c.pts y k.toNat=scoreM c.pts x k.toNat
      · by_cases e3:j<i
        · have eb:bfB c k.toNat i j=true:=by unfold bfB;rw [← x5,← y5];simp [e2,e3]
          rw [if_pos eb] at es
          exact rcn_L1_p1 (by omega) x1 hV x2 x3 x4 y1 y2 y3 y4 (by omega) e2 (by omega) (inR_nat (by omega)) (inR_nat (by omega)) rfl es
        · have eb:bfB c k.toNat i j=false:=by unfold bfB;rw [← x5,← y5];simp [e2,e3]
          rw [if_neg (by rw [eb];simp),Nat.add_zero] at es
          rw [es]
          exact rcn_L1_p2 (by omega) x1 hV x2 x3 x4 y1 y2 y3 y4 (by omega) e2 (by omega) (inR_nat (by omega)) rfl
      · have eb:bfB c k.toNat i j=false:=by unfold bfB;rw [← x5,← y5];simp [e1,e2]
        rw [if_neg (by rw [eb];simp),Nat.add_zero] at es
        rw [es]
        exact rcn_L1_p3 (by omega) x1 hV x2 x3 x4 y1 y2 y3 y4 (by omega) e2 (inR_nat (by omega)) rfl
  have h:=LoopOK.count (P:=Tryz.prog) (k:=0) (b:=zU3c3) (e := .exit 0) (R:=rcn_S0 c k c.done.length (cntdR c k.toNat c.done.length).length ((cntdR c k.toNat c.done.length).map intP)) c.done.length (fun i=>rcn_S0 c k i (cntdR c k.toNat i).length ((cntdR c k.toNat i).map intP))
    (fun i hi=>by
      have es:=cntdR_succ c k.toNat i
      have hl:=cntdR_len c k.toNat i
      by_cases e:(befM c k.toNat i:Int)<c.be
      · rw [if_pos e] at es
        exact rcn_L0_p0 (o:=cntdR c k.toNat i) (o':=cntdR c k.toNat (i+1)) (by omega) (inner i hi _) e (by simp;omega) (inR_nat (by omega)) rfl (by rw [es];simp) (by rw [es];simp)
      · rw [if_neg e,List.append_nil] at es
        rw [es]
        exact rcn_L0_p1 (by omega) (inner i hi _) (by omega) (inR_nat (by omega)) rfl)
    (rcn_L0_p2 (by omega)) (by simp)
  rw [cntd_ref c k.toNat (by omega)]
  exact rcn_p0 h
def rto_S0(c:Cup)(k:Int)(i:Nat)(n:Int):St:=⟨fr 31 [(1,(.p (intP k))),(2,(.ptr 0 0)),(4,(.p (intP 0))),(5,(.p (intsP (countedL c k.toNat)))),(6,(.p (intP n))),(7,(.p (intP (i:Int))))],[some (.box 37 [(.p (intP c.sk)),(.p (intP c.ra)),(.p (intP c.be)),(.p (intsP c.pts)),(.p (rowsP c.done))])]⟩
theorem rto_p0{c:Cup}{k:Int}{i'0:Nat}{n'1:Int}(h0:KL.Valid c)(h1:0≤k∧k<c.sk)(hl2:LoopOK Tryz.prog 0 zU3c7 (rto_S0 c k 0 (0:Int)) (.exit 0) (rto_S0 c k i'0 n'1)){base:Nat}:FV Tryz.prog 52 [(.p (cupP c)),(.p (intP k))] base (.p (intP n'1)) []:=by
  exact FV.fin Tryz.func52 rfl (o:=[.c (.p (intsP (countedL c k.toNat))) [],.k 6 ⟨(rng [(0,1),(3,1),(8,22)]),[0],[],[]⟩ (.exit 0) (rto_S0 c k i'0 n'1)]) (l:=[_,_]) (by kernel_rfl) (gc hl2.code (gc (fk 1 (rcn_ok c k h0 h1) rfl) gn))
theorem rto_L0_p0{c:Cup}{k:Int}{i:Nat}{n x100:Int}{x101:List Int}{i':Nat}{n':Int}(h0:(i:Int)<(((countedL c k.toNat).length:Nat):Int))(h1:(countedL c k.toNat)[i]? = some x100)(h2:c.done[x100.toNat]? = some x101)(h3:0≤x100)(h4:KL.Valid c)(h5:x101.length≤1000)(h6:∀ x∈x101,0≤x∧x≤60)(h7:0≤k∧k<x101.length)(h8:inR (n+(scoreM c.pts x101 k.toNat)))(h9:inR (((i+1):Nat):Int))(ei':i'=(i+1))(en':n'=(n+(scoreM c.pts x101 k.toNat))):CodeOK Tryz.prog 0 zU3c7 (rto_S0 c k i n) .normal (rto_S0 c k i' n'):=by
  subst ei' en'
  exact CodeOK.fin (g:=⟨(rng [(0,1),(3,1),(8,22)]),[0],[],[]⟩) (o:=[bT,.x (intP x100),.x (intsP x101),.c (.p (intP (scoreM c.pts x101 k.toNat))) []]) (l:=[_,_,_,(c.done.map intsP)[(x100.toNat*1)]? = some (intsP x101),_,_,_,_]) (by kernel_rfl) (gc h9 (gc h8 (gc (fk 1 (rsc_ok c x101 k h4 h5 h6 h7) rfl) (gc (at_map (i:=x100.toNat) h2) (gc (ix_map (g:=intsP) h3 h2) (gc (atm intP h1) (gc (ixn intP h1) (gc (q_lt h0) gn))))))))
theorem rto_L0_p1{c:Cup}{k:Int}{i:Nat}{n:Int}(h0:(((countedL c k.toNat).length:Nat):Int)≤(i:Int)):CodeOK Tryz.prog 0 zU3c7 (rto_S0 c k i n) (.exit 0) (rto_S0 c k i n):=by
  exact CodeOK.fin (g:=⟨(rng [(0,1),(3,1),(8,22)]),[0],[],[]⟩) (o:=[bF]) (l:=[_]) (by kernel_rfl) (gc (q_ltF h0) gn)
theorem rto_ok(c:Cup)(k:Int)(hV:KL.Valid c)(hk:0≤k∧k<c.sk){base:Nat}:FV Tryz.prog 52 [.p (cupP c),.p (intP k)] base (.p (intP (totalM c k.toNat))) []:=by
  have s1:=hV.sk1
  have b1:=hV.be1
  have s2:=hV.sk2
  have hd:=hV.small.done
  obtain ⟨L,hL⟩:∃ L,L=countedL c k.toNat:=⟨_,rfl⟩
  have hll:L.length≤1000:=by
    rw [hL,cntd_ref c k.toNat (by omega)]
    exact Nat.le_trans (cntdR_len c k.toNat c.done.length) hd
  have hmem:∀ x∈L,0≤x∧x<c.done.length:=fun x hx=>by
    rw [hL,cntd_ref c k.toNat (by omega)] at hx
    unfold cntdR at hx
    obtain ⟨i,hi,rfl⟩:=List.mem_map.1 hx
    have:=List.mem_range.1 (List.mem_filter.1 hi).1
    omega
  have sb:∀ m,((L.take m).map fun i=>scoreAt c i.toNat k.toNat).sum≤1000*(min m L.length)∧0≤((L.take m).map fun i=>scoreAt c i.toNat k.toNat).sum:=fun m=>by
    have:=KL.sum_bd ((L.take m).map fun i=>scoreAt c i.toNat k.toNat) (fun x hx=>by
      obtain ⟨y,_,rfl⟩:=List.mem_map.1 hx
      exact KL.scoreM_bd _ _ _ hV.pts)
    rw [List.length_map,List.length_take] at this
    exact ⟨this.2,this.1⟩
  have h:=LoopOK.count (P:=Tryz.prog) (k:=0) (b:=zU3c7) (e := .exit 0) (R:=rto_S0 c k L.length ((L.map fun i=>scoreAt c i.toNat k.toNat).sum)) L.length (fun i=>rto_S0 c k i (((L.take i).map fun i=>scoreAt c i.toNat k.toNat).sum))
    (fun i hi=>by
      have hx:=List.getElem?_eq_getElem hi
      have hm:=hmem _ (List.mem_of_getElem? hx)
      have hr:c.done[L[i].toNat]? = some (c.done.getD L[i].toNat []):=by
        rw [List.getD_eq_getElem?_getD,List.getElem?_eq_getElem (by omega)];rfl
      have hrm:=List.mem_of_getElem? hr
      have hrl:=hV.len _ hrm
      have es:((L.take (i+1)).map fun i=>scoreAt c i.toNat k.toNat).sum=((L.take i).map fun i=>scoreAt c i.toNat k.toNat).sum+scoreM c.pts (c.done.getD L[i].toNat []) k.toNat:=by
        rw [List.take_add_one,hx,List.map_append,List.sum_append]
        simp [scoreAt]
      have q:=sb (i+1)
      exact rto_L0_p0 (by rw [← hL];omega) (by rw [← hL];exact hx) hr hm.1 hV (by omega) (hV.rows _ hrm) ⟨hk.1,by omega⟩ (by rw [← es];unfold inR;omega) (inR_nat (by omega)) rfl es)
    (by rw [List.take_length];exact rto_L0_p1 (by rw [← hL];omega)) (by simp)
  have ht:totalM c k.toNat=(L.map fun i=>scoreAt c i.toNat k.toNat).sum:=by rw [hL];rfl
  rw [ht]
  exact rto_p0 hV hk h
def oft_S0(c:Cup)(k:Int)(p:Int)(i:Nat)(n:Nat):St:=⟨fr 29 [(1,(.p (intP k))),(2,(.p (intP p))),(3,(.ptr 0 0)),(6,(.p (intP 0))),(7,(.p (intP (n:Int)))),(8,(.p (intP (i:Int))))],[some (.box 37 [(.p (intP c.sk)),(.p (intP c.ra)),(.p (intP c.be)),(.p (intsP c.pts)),(.p (rowsP c.done))])]⟩
theorem oft_p0{c:Cup}{k p:Int}{i'0 n'1:Nat}(hl0:LoopOK Tryz.prog 0 zU3c5 (oft_S0 c k p 0 0) (.exit 0) (oft_S0 c k p i'0 n'1)){base:Nat}:FV Tryz.prog 116 [(.p (cupP c)),(.p (intP k)),(.p (intP p))] base (.p (intP (n'1:Int))) []:=by
  exact FV.fin Tryz.func116 rfl (o:=[.k 8 ⟨(rng [(0,1),(4,2),(9,19)]),[0],[],[]⟩ (.exit 0) (oft_S0 c k p i'0 n'1)]) (l:=[_]) (by kernel_rfl) (gc hl0.code gn)
theorem oft_L0_p0{c:Cup}{k p:Int}{i n:Nat}{x100:List Int}{x101:Int}{i' n':Nat}(h0:(i:Int)<(c.done.length:Int))(h1:c.done[i]? = some x100)(h2:x100[k.toNat]? = some x101)(h3:0≤k)(h4:x101=p)(h5:inR (((n+1):Nat):Int))(h6:inR (((i+1):Nat):Int))(ei':i'=(i+1))(en':n'=(n+1)):CodeOK Tryz.prog 0 zU3c5 (oft_S0 c k p i n) .normal (oft_S0 c k p i' n'):=by
  subst ei' en'
  exact CodeOK.fin (g:=⟨(rng [(0,1),(4,2),(9,19)]),[0],[],[]⟩) (o:=[bT,.x (intsP x100),.x (intP x101),bT]) (l:=[_,_,_,(x100.map intP)[(k.toNat*1)]? = some (intP x101),_,_,_,_]) (by kernel_rfl) (gc h6 (gc h5 (gc (q_eq h4) (gc (at_map (i:=k.toNat) h2) (gc (ix_map (g:=intP) h3 h2) (gc (atm intsP h1) (gc (ixn intsP h1) (gc (q_lt h0) gn))))))))
theorem oft_L0_p1{c:Cup}{k p:Int}{i n:Nat}{x100:List Int}{x101:Int}{i':Nat}(h0:(i:Int)<(c.done.length:Int))(h1:c.done[i]? = some x100)(h2:x100[k.toNat]? = some x101)(h3:0≤k)(h4:x101≠p)(h5:inR (((i+1):Nat):Int))(ei':i'=(i+1)):CodeOK Tryz.prog 0 zU3c5 (oft_S0 c k p i n) .normal (oft_S0 c k p i' n):=by
  subst ei'
  exact CodeOK.fin (g:=⟨(rng [(0,1),(4,2),(9,19)]),[0],[],[]⟩) (o:=[bT,.x (intsP x100),.x (intP x101),bF]) (l:=[_,_,(x100.map intP)[(k.toNat*1)]? = some (intP x101),_,_,_,_]) (by kernel_rfl) (gc h5 (gc (q_ne h4) (gc (at_map (i:=k.toNat) h2) (gc (ix_map (g:=intP) h3 h2) (gc (atm intsP h1) (gc (ixn intsP h1) (gc (q_lt h0) gn)))))))
theorem oft_L0_p2{c:Cup}{k p:Int}{i n:Nat}(h0:(c.done.length:Int)≤(i:Int)):CodeOK Tryz.prog 0 zU3c5 (oft_S0 c k p i n) (.exit 0) (oft_S0 c k p i n):=by
  exact CodeOK.fin (g:=⟨(rng [(0,1),(4,2),(9,19)]),[0],[],[]⟩) (o:=[bF]) (l:=[_]) (by kernel_rfl) (gc (q_ltF h0) gn)
def cntI(c:Cup)(s:Nat)(p:Int):Nat:=c.done.countP fun r=>decide (r.getD s 0=p)
theorem oft_ok(c:Cup)(k p:Int)(hV:KL.Valid c)(hk:0≤k∧k<c.sk){base:Nat}:FV Tryz.prog 116 [.p (cupP c),.p (intP k),.p (intP p)] base (.p (intP ((cntI c k.toNat p:Nat):Int))) []:=by
  have hd:=hV.small.done
  have h:=LoopOK.count (P:=Tryz.prog) (k:=0) (b:=zU3c5) (e := .exit 0) (R:=oft_S0 c k p c.done.length (cntI c k.toNat p)) c.done.length (fun i=>oft_S0 c k p i ((c.done.take i).countP fun r=>decide (r.getD k.toNat 0=p)))
    (fun i hi=>by
      have hx:=List.getElem?_eq_getElem hi
      have hl:=hV.len _ (List.mem_of_getElem? hx)
      have hy:(c.done[i])[k.toNat]? = some ((c.done[i]).getD k.toNat 0):=by
        rw [List.getD_eq_getElem?_getD,List.getElem?_eq_getElem (by omega)];rfl
      have hb:((c.done.take i).countP fun r=>decide (r.getD k.toNat 0=p))≤1000:=Nat.le_trans List.countP_le_length (by simp;omega)
      have es:((c.done.take (i+1)).countP fun r=>decide (r.getD k.toNat 0=p))=((c.done.take i).countP fun r=>decide (r.getD k.toNat 0=p))+if (c.done[i]).getD k.toNat 0=p then 1 else 0:=by
        rw [List.take_succ_eq_append_getElem hi,List.countP_append,List.countP_singleton]
        simp
      by_cases e:(c.done[i]).getD k.toNat 0=p
      · rw [if_pos e] at es
        exact oft_L0_p0 (by omega) hx hy hk.1 e (inR_nat (by omega)) (inR_nat (by omega)) rfl es
      · rw [if_neg e,Nat.add_zero] at es
        rw [es]
        exact oft_L0_p1 (by omega) hx hy hk.1 e (inR_nat (by omega)) rfl)
    (by rw [List.take_length];exact oft_L0_p2 (by omega)) (by simp)
  exact oft_p0 h
def rbt_S0(c:Cup)(a:Int)(b:Int)(p:Nat):St:=⟨fr 42 [(1,(.p (intP a))),(2,(.p (intP b))),(3,(.ptr 0 0)),(9,(.p (intP (p:Int))))],[some (.box 37 [(.p (intP c.sk)),(.p (intP c.ra)),(.p (intP c.be)),(.p (intsP c.pts)),(.p (rowsP c.done))])]⟩
theorem rbt_p0{c:Cup}{a b:Int}{r0:Bool}(h0:KL.Valid c)(h1:0≤a∧a<c.sk)(h2:0≤b∧b<c.sk)(h3:(totalM c a.toNat)≠(totalM c b.toNat))(er0:r0=(decide ((totalM c a.toNat) > (totalM c b.toNat)))){base:Nat}:FV Tryz.prog 48 [(.p (cupP c)),(.p (intP a)),(.p (intP b))] base (.p (blP r0)) []:=by
  subst er0
  exact FV.fin Tryz.func48 rfl (o:=[.c (.p (intP (totalM c a.toNat))) [],.c (.p (intP (totalM c b.toNat))) [],bT]) (l:=[_,_,_]) (by kernel_rfl) (gc (q_neT h3) (gc (fk 5 (rto_ok c b h0 h2) rfl) (gc (fk 1 (rto_ok c a h0 h1) rfl) gn)))
theorem rbt_p1{c:Cup}{a b:Int}{p'0:Nat}(h0:KL.Valid c)(h1:0≤a∧a<c.sk)(h2:0≤b∧b<c.sk)(h3:(totalM c a.toNat)=(totalM c b.toNat))(hl4:LoopOK Tryz.prog 0 zU3c4 (rbt_S0 c a b 1) (.exit 0) (rbt_S0 c a b p'0)){base:Nat}:FV Tryz.prog 48 [(.p (cupP c)),(.p (intP a)),(.p (intP b))] base (.p (blP false)) []:=by
  exact FV.fin Tryz.func48 rfl (o:=[.c (.p (intP (totalM c a.toNat))) [],.c (.p (intP (totalM c b.toNat))) [],bF,.k 4 ⟨(rng [(0,1),(4,5),(10,32)]),[0],[],[]⟩ (.exit 0) (rbt_S0 c a b p'0)]) (l:=[_,_,_,_]) (by kernel_rfl) (gc hl4.code (gc (q_neF h3) (gc (fk 5 (rto_ok c b h0 h2) rfl) (gc (fk 1 (rto_ok c a h0 h1) rfl) gn))))
theorem rbt_p2{c:Cup}{a b:Int}{p'0:Nat}{r0:Bool}(h0:KL.Valid c)(h1:0≤a∧a<c.sk)(h2:0≤b∧b<c.sk)(h3:(totalM c a.toNat)=(totalM c b.toNat))(hl4:LoopOK Tryz.prog 0 zU3c4 (rbt_S0 c a b 1) .ret (setS (rbt_S0 c a b p'0) [(6,(.p (blP (decide (((cntI c b.toNat (p'0:Int):Nat):Int)<((cntI c a.toNat (p'0:Int):Nat):Int))))))]))(er0:r0=(decide (((cntI c b.toNat (p'0:Int):Nat):Int)<((cntI c a.toNat (p'0:Int):Nat):Int)))){base:Nat}:FV Tryz.prog 48 [(.p (cupP c)),(.p (intP a)),(.p (intP b))] base (.p (blP r0)) []:=by
  subst er0
  exact FV.fin Tryz.func48 rfl (o:=[.c (.p (intP (totalM c a.toNat))) [],.c (.p (intP (totalM c b.toNat))) [],bF,.k 4 ⟨(rng [(0,1),(4,5),(10,32)]),[0],[],[]⟩ .ret (setS (rbt_S0 c a b p'0) [(6,(.p (blP (decide (((cntI c b.toNat (p'0:Int):Nat):Int)<((cntI c a.toNat (p'0:Int):Nat):Int))))))])]) (l:=[_,_,_,_]) (by kernel_rfl) (gc hl4.code (gc (q_neF h3) (gc (fk 5 (rto_ok c b h0 h2) rfl) (gc (fk 1 (rto_ok c a h0 h1) rfl) gn))))
theorem rbt_L0_p0{c:Cup}{a b:Int}{p:Nat}(h0:(p:Int)≤(60:Int))(h1:KL.Valid c)(h2:0≤a∧a<c.sk)(h3:0≤b∧b<c.sk)(h4:((cntI c a.toNat (p:Int):Nat):Int)≠((cntI c b.toNat (p:Int):Nat):Int)):CodeOK Tryz.prog 0 zU3c4 (rbt_S0 c a b p) .ret (setS (rbt_S0 c a b p) [(6,(.p (blP (decide (((cntI c a.toNat (p:Int):Nat):Int) > ((cntI c b.toNat (p:Int):Nat):Int))))))]):=by
  exact CodeOK.fin (g:=⟨(rng [(0,1),(4,2),(7,2),(10,32)]),[0],[],[]⟩) (o:=[bT,.c (.p (intP ((cntI c a.toNat (p:Int):Nat):Int))) [],.c (.p (intP ((cntI c b.toNat (p:Int):Nat):Int))) [],bT]) (l:=[_,_,_,_]) (by kernel_rfl) (gc (q_neT h4) (gc (fk 5 (oft_ok c b (p:Int) h1 h3) rfl) (gc (fk 1 (oft_ok c a (p:Int) h1 h2) rfl) (gc (q_le h0) gn))))
theorem rbt_L0_p1{c:Cup}{a b:Int}{p p':Nat}(h0:(p:Int)≤(60:Int))(h1:KL.Valid c)(h2:0≤a∧a<c.sk)(h3:0≤b∧b<c.sk)(h4:((cntI c a.toNat (p:Int):Nat):Int)=((cntI c b.toNat (p:Int):Nat):Int))(h5:inR (((p+1):Nat):Int))(ep':p'=(p+1)):CodeOK Tryz.prog 0 zU3c4 (rbt_S0 c a b p) .normal (rbt_S0 c a b p'):=by
  subst ep'
  exact CodeOK.fin (g:=⟨(rng [(0,1),(4,5),(10,32)]),[0],[],[]⟩) (o:=[bT,.c (.p (intP ((cntI c a.toNat (p:Int):Nat):Int))) [],.c (.p (intP ((cntI c b.toNat (p:Int):Nat):Int))) [],bF]) (l:=[_,_,_,_,_]) (by kernel_rfl) (gc h5 (gc (q_neF h4) (gc (fk 5 (oft_ok c b (p:Int) h1 h3) rfl) (gc (fk 1 (oft_ok c a (p:Int) h1 h2) rfl) (gc (q_le h0) gn)))))
theorem rbt_L0_p2{c:Cup}{a b:Int}{p:Nat}(h0:(60:Int)<(p:Int)):CodeOK Tryz.prog 0 zU3c4 (rbt_S0 c a b p) (.exit 0) (rbt_S0 c a b p):=by
  exact CodeOK.fin (g:=⟨(rng [(0,1),(4,5),(10,32)]),[0],[],[]⟩) (o:=[bF]) (l:=[_]) (by kernel_rfl) (gc (q_leF h0) gn)
theorem rbt_ok(c:Cup)(a b:Int)(hV:KL.Valid c)(ha:0≤a∧a<c.sk)(hb:0≤b∧b<c.sk){base:Nat}:FV Tryz.prog 48 [.p (cupP c),.p (intP a),.p (intP b)] base (.p (blP (betS c a.toNat b.toNat))) []:=by
  unfold betS KL.betterF
  by_cases h0:totalM c a.toNat=totalM c b.toNat
  · rw [if_pos h0]
    have pl:∀ (s i:Nat),i<60→(placesM c s).getD (i+1) 0=((cntI c s ((i+1:Nat):Int):Nat):Int):=fun s i hi=>places_at (by omega) (by omega)
    rcases LoopOK.find (P:=Tryz.prog) (k:=0) (b:=zU3c4) (fun i=>rbt_S0 c a b (i+1)) (fun i _=>setS (rbt_S0 c a b (i+1)) [(6,.p (blP (decide (((cntI c b.toNat ((i+1:Nat):Int):Nat):Int)<((cntI c a.toNat ((i+1:Nat):Int):Nat):Int)))))]) (rbt_S0 c a b 61) .ret (.exit 0) (by simp) (by simp) (fun i=>decide (cntI c a.toNat ((i+1:Nat):Int)≠cntI c b.toNat ((i+1:Nat):Int))) (List.range 60)
      (fun i x hx hp=>by
        obtain ⟨rfl,hi⟩:=range_at hx
        have hp':cntI c a.toNat ((x+1:Nat):Int)=cntI c b.toNat ((x+1:Nat):Int):=by simpa using hp
        exact rbt_L0_p1 (by omega) hV ha hb (by rw [hp']) (inR_nat (by omega)) rfl)
      (fun i x hx hp=>by
        obtain ⟨rfl,hi⟩:=range_at hx
        have hp':cntI c a.toNat ((x+1:Nat):Int)≠cntI c b.toNat ((x+1:Nat):Int):=by simpa using hp
        exact rbt_L0_p0 (by omega) hV ha hb (by omega))
      (by rw [List.length_range];exact rbt_L0_p2 (by omega)) with ⟨i,x,h1,h2,h3,h4⟩ | ⟨h1,h2,h3⟩
    · obtain ⟨rfl,hi⟩:=range_at h1
      have h3':cntI c a.toNat ((x+1:Nat):Int)≠cntI c b.toNat ((x+1:Nat):Int):=by simpa using h3
      obtain ⟨_,_,hbf⟩:=List.findIdx?_eq_some_iff_getElem.1 h2
      rw [lex_first hi (by rw [pl _ _ hi,pl _ _ hi];omega) (fun j hj=>by
        have:=hbf j hj
        rw [List.getElem_range] at this
        have e:cntI c a.toNat ((j+1:Nat):Int)=cntI c b.toNat ((j+1:Nat):Int):=by simpa using this
        rw [pl _ _ (by omega),pl _ _ (by omega),e]),pl _ _ hi,pl _ _ hi]
      exact rbt_p2 hV ha hb h0 h4 rfl
    · rw [lex_none (fun j hj=>by
        have:=List.any_eq_false.1 h2 j (List.mem_range.2 hj)
        have e:cntI c a.toNat ((j+1:Nat):Int)=cntI c b.toNat ((j+1:Nat):Int):=by simpa using this
        rw [pl _ _ hj,pl _ _ hj,e])]
      exact rbt_p1 hV ha hb h0 h3
  · rw [if_neg h0]
    exact rbt_p0 hV ha hb h0 rfl
def rrk_S0(c:Cup)(k:Int)(s:Nat)(n:Int):St:=⟨fr 20 [(1,(.p (intP k))),(2,(.ptr 0 0)),(4,(.p (intP 0))),(5,(.p (intP n))),(6,(.p (intP (s:Int))))],[some (.box 37 [(.p (intP c.sk)),(.p (intP c.ra)),(.p (intP c.be)),(.p (intsP c.pts)),(.p (rowsP c.done))])]⟩
theorem rrk_p0{c:Cup}{k:Int}{s'0:Nat}{n'1:Int}(hl0:LoopOK Tryz.prog 0 zU3c6 (rrk_S0 c k 0 (1:Int)) (.exit 0) (rrk_S0 c k s'0 n'1)){base:Nat}:FV Tryz.prog 61 [(.p (cupP c)),(.p (intP k))] base (.p (intP n'1)) []:=by
  exact FV.fin Tryz.func61 rfl (o:=[.k 8 ⟨(rng [(0,1),(3,1),(7,12)]),[0],[],[]⟩ (.exit 0) (rrk_S0 c k s'0 n'1)]) (l:=[_]) (by kernel_rfl) (gc hl0.code gn)
theorem rrk_L0_p0{c:Cup}{k:Int}{s:Nat}{n:Int}{s':Nat}{n':Int}(h0:(s:Int)<c.sk)(h1:KL.Valid c)(h2:0≤(s:Int)∧(s:Int)<c.sk)(h3:0≤k∧k<c.sk)(h4:(betS c (s:Int).toNat k.toNat)=true)(h5:inR (n+(1:Int)))(h6:inR (((s+1):Nat):Int))(es':s'=(s+1))(en':n'=(n+(1:Int))):CodeOK Tryz.prog 0 zU3c6 (rrk_S0 c k s n) .normal (rrk_S0 c k s' n'):=by
  subst es' en'
  exact CodeOK.fin (g:=⟨(rng [(0,1),(3,1),(7,12)]),[0],[],[]⟩) (o:=[bT,.c (.p (blP (betS c (s:Int).toNat k.toNat))) [],bT]) (l:=[_,_,_,_,_]) (by kernel_rfl) (gc h6 (gc h5 (gc h4 (gc (fk 1 (rbt_ok c (s:Int) k h1 h2 h3) rfl) (gc (q_lt h0) gn)))))
theorem rrk_L0_p1{c:Cup}{k:Int}{s:Nat}{n:Int}{s':Nat}(h0:(s:Int)<c.sk)(h1:KL.Valid c)(h2:0≤(s:Int)∧(s:Int)<c.sk)(h3:0≤k∧k<c.sk)(h4:(betS c (s:Int).toNat k.toNat)=false)(h5:inR (((s+1):Nat):Int))(es':s'=(s+1)):CodeOK Tryz.prog 0 zU3c6 (rrk_S0 c k s n) .normal (rrk_S0 c k s' n):=by
  subst es'
  exact CodeOK.fin (g:=⟨(rng [(0,1),(3,1),(7,12)]),[0],[],[]⟩) (o:=[bT,.c (.p (blP (betS c (s:Int).toNat k.toNat))) [],bF]) (l:=[_,_,_,_]) (by kernel_rfl) (gc h5 (gc h4 (gc (fk 1 (rbt_ok c (s:Int) k h1 h2 h3) rfl) (gc (q_lt h0) gn))))
theorem rrk_L0_p2{c:Cup}{k:Int}{s:Nat}{n:Int}(h0:c.sk≤(s:Int)):CodeOK Tryz.prog 0 zU3c6 (rrk_S0 c k s n) (.exit 0) (rrk_S0 c k s n):=by
  exact CodeOK.fin (g:=⟨(rng [(0,1),(3,1),(7,12)]),[0],[],[]⟩) (o:=[bF]) (l:=[_]) (by kernel_rfl) (gc (q_ltF h0) gn)
theorem rrk_ok(c:Cup)(k:Int)(hV:KL.Valid c)(hk:0≤k∧k<c.sk){base:Nat}:FV Tryz.prog 61 [.p (cupP c),.p (intP k)] base (.p (intP (rankM c k.toNat))) []:=by
  have s1:=hV.sk1
  have s2:=hV.sk2
  have h:=LoopOK.count (P:=Tryz.prog) (k:=0) (b:=zU3c6) (e := .exit 0) (R:=rrk_S0 c k c.sk.toNat (bttrUp c k.toNat c.sk.toNat)) c.sk.toNat (fun i=>rrk_S0 c k i (bttrUp c k.toNat i))
    (fun i hi=>by
      have hb:1≤bttrUp c k.toNat i∧bttrUp c k.toNat i≤1+i:=by
        unfold bttrUp
        have:=List.countP_le_length (p:=fun x=>betS c x k.toNat) (l:=List.range i)
        rw [List.length_range] at this
        omega
      have es:bttrUp c k.toNat (i+1)=bttrUp c k.toNat i+if betS c i k.toNat=true then 1 else 0:=by
        unfold bttrUp
        rw [List.range_succ,List.countP_append,List.countP_singleton]
        split <;> omega
      cases e:betS c i k.toNat with
      | true =>
        rw [if_pos e] at es
        exact rrk_L0_p0 (by omega) hV (by omega) hk e (by unfold inR;omega) (inR_nat (by omega)) rfl es
      | false =>
        rw [if_neg (by rw [e];simp),Int.add_zero] at es
        rw [es]
        exact rrk_L0_p1 (by omega) hV (by omega) hk e (inR_nat (by omega)) rfl)
    (rrk_L0_p2 (by omega)) (by simp)
  rw [rank_ref]
  have e0:bttrUp c k.toNat 0=1:=by unfold bttrUp;simp
  rw [e0] at h
  exact rrk_p0 h
theorem rwi_p0{c:Cup}{f:List (List Int)}{r0n:Nat}{r0c:List PV}(h0:(c.done.map intsP).length=c.done.length*1∧0+c.done.length≤1000000)(h1:(f.map intsP).length=f.length*1∧(0+c.done.length)+f.length≤1000000)(er0n:r0n=((0+c.done.length)+f.length))(er0c:r0c=((c.done.map intsP)++(f.map intsP))){base:Nat}:FV Tryz.prog 77 [(.p (cupP c)),(.p (rowsP f))] base (.p (.agg [(intP c.sk),(intP c.ra),(intP c.be),(intsP c.pts),(.sl r0n r0c)])) []:=by
  subst er0n er0c
  exact FV.frz (FMM.fin (k:=0) (g:=⟨[],[],[5],[]⟩) rfl Tryz.func77 rfl (o:=[]) (l:=[_,_]) (by kernel_rfl) (gc h1 (gc h0 gn))) (by kernel_rfl)
theorem rwi_ok(c:Cup)(f:List (List Int))(h:c.done.length+f.length≤1000){base:Nat}:FV Tryz.prog 77 [.p (cupP c),.p (rowsP f)] base (.p (cupP (withC c f))) [] :=
  rwi_p0 (r0n:=(c.done++f).length) (r0c:=(c.done++f).map intsP) (by simp;omega) (by simp;omega) (by simp) (by simp)
theorem raf_p2{c:Cup}{f:List (List Int)}(h0:KL.Small c)(h1:(checkP c)=(0:Int))(h2:c.done.length+f.length≤1000)(h3:KL.Small (withC c f))(h4:(checkP (withC c f))=(0:Int)){base:Nat}:FV Tryz.prog 45 [(.p (cupP c)),(.p (rowsP f))] base (.tup [(.p (.agg [(intP ((withC c f).sk)),(intP ((withC c f).ra)),(intP ((withC c f).be)),(intsP ((withC c f).pts)),(rowsP ((withC c f).done))])),(.p (intP 0))]) []:=by
  exact FV.fin Tryz.func45 rfl (o:=[.c (.p (intP (checkP c))) [],bF,.c (.p (.agg [(intP ((withC c f).sk)),(intP ((withC c f).ra)),(intP ((withC c f).be)),(intsP ((withC c f).pts)),(rowsP ((withC c f).done))])) [],.c (.p (intP (checkP (withC c f)))) [],bF]) (l:=[_,_,_,_,_]) (by kernel_rfl) (gc (q_neF h4) (gc (fk 3 (chk_ok (withC c f) h3) rfl) (gc (fk 2 (rwi_ok c f h2) rfl) (gc (q_neF h1) (gc (fk 2 (chk_ok c h0) rfl) gn)))))
theorem raf_ok(c:Cup)(f:List (List Int))(hV:KL.Valid c)(hW:KL.Valid (withC c f)){base:Nat}:FV Tryz.prog 45 [.p (cupP c),.p (rowsP f)] base (.tup [.p (cupP (withC c f)),.p (intP 0)]) [] :=
  raf_p2 hV.small ((KL.valid_iff c).2 hV) (by have:=hW.small.done;rwa [show (withC c f).done=c.done++f from rfl,List.length_append] at this) hW.small ((KL.valid_iff _).2 hW)
def grt_S0(c:Cup)(i:Nat):St:=⟨fr 39 [(29,(.p (rowsP c.done))),(30,(.p (intP (c.done.length:Int)))),(31,(.p (intP (i:Int))))],[]⟩
theorem grt_p0{c:Cup}{k:Int}(h0:k<c.sk)(h1:c.sk≤(12:Int)){base:Nat}:FV Tryz.prog 18 [(.p (cupP c)),(.p (intP k))] base (.p (blP true)) []:=by
  exact FV.fin Tryz.func18 rfl (o:=[bT,bT,bT,bT,bT,bT,bT,bT,bT]) (l:=[_,_,_,_,_,_,_,_,_]) (by kernel_rfl) (gc (q_le h1) (gc (q_le h1) (gc (q_le h1) (gc (q_le h1) (gc (q_le h1) (gc (q_lt h0) (gc (q_lt h0) (gc (q_lt h0) (gc (q_lt h0) gn)))))))))
theorem grt_p1{c:Cup}{k:Int}(h0:k<c.sk)(h1:(12:Int)<c.sk)(h2:(65:Int)<(c.pts.length:Int)){base:Nat}:FV Tryz.prog 18 [(.p (cupP c)),(.p (intP k))] base (.p (blP true)) []:=by
  exact FV.fin Tryz.func18 rfl (o:=[bT,bT,bT,bT,bF,bF,bF,bF,bF,bT,bT,bT,bT,bT]) (l:=[_,_,_,_,_,_,_,_,_,_,_,_,_,_]) (by kernel_rfl) (gc (q_lt h2) (gc (q_lt h2) (gc (q_lt h2) (gc (q_lt h2) (gc (q_lt h2) (gc (q_leF h1) (gc (q_leF h1) (gc (q_leF h1) (gc (q_leF h1) (gc (q_leF h1) (gc (q_lt h0) (gc (q_lt h0) (gc (q_lt h0) (gc (q_lt h0) gn))))))))))))))
theorem grt_p2{c:Cup}{k:Int}(h0:k<c.sk)(h1:(12:Int)<c.sk)(h2:(c.pts.length:Int)≤(65:Int))(h3:(25:Int)<(c.done.length:Int)){base:Nat}:FV Tryz.prog 18 [(.p (cupP c)),(.p (intP k))] base (.p (blP true)) []:=by
  exact FV.fin Tryz.func18 rfl (o:=[bT,bT,bT,bT,bF,bF,bF,bF,bF,bF,bF,bF,bF,bF,bT]) (l:=[_,_,_,_,_,_,_,_,_,_,_,_,_,_,_]) (by kernel_rfl) (gc (q_lt h3) (gc (q_ltF h2) (gc (q_ltF h2) (gc (q_ltF h2) (gc (q_ltF h2) (gc (q_ltF h2) (gc (q_leF h1) (gc (q_leF h1) (gc (q_leF h1) (gc (q_leF h1) (gc (q_leF h1) (gc (q_lt h0) (gc (q_lt h0) (gc (q_lt h0) (gc (q_lt h0) gn)))))))))))))))
theorem grt_p3{c:Cup}{k:Int}{i'0:Nat}(h0:k<c.sk)(h1:(12:Int)<c.sk)(h2:(c.pts.length:Int)≤(65:Int))(h3:(c.done.length:Int)≤(25:Int))(hl4:LoopOK Tryz.prog 0 zU3c0 (grt_S0 c 0) (.exit 0) (grt_S0 c i'0)){base:Nat}:FV Tryz.prog 18 [(.p (cupP c)),(.p (intP k))] base (.p (blP false)) []:=by
  exact FV.fin Tryz.func18 rfl (o:=[bT,bT,bT,bT,bF,bF,bF,bF,bF,bF,bF,bF,bF,bF,bF,.k 4 ⟨(rng [(0,29),(32,7)]),[],[],[]⟩ (.exit 0) (grt_S0 c i'0)]) (l:=[_,_,_,_,_,_,_,_,_,_,_,_,_,_,_,_]) (by kernel_rfl) (gc hl4.code (gc (q_ltF h3) (gc (q_ltF h2) (gc (q_ltF h2) (gc (q_ltF h2) (gc (q_ltF h2) (gc (q_ltF h2) (gc (q_leF h1) (gc (q_leF h1) (gc (q_leF h1) (gc (q_leF h1) (gc (q_leF h1) (gc (q_lt h0) (gc (q_lt h0) (gc (q_lt h0) (gc (q_lt h0) gn))))))))))))))))
theorem grt_p4{c:Cup}{k:Int}{i'0:Nat}(h0:k<c.sk)(h1:(12:Int)<c.sk)(h2:(c.pts.length:Int)≤(65:Int))(h3:(c.done.length:Int)≤(25:Int))(hl4:LoopOK Tryz.prog 0 zU3c0 (grt_S0 c 0) .ret (setS (grt_S0 c i'0) [(4,(.kb true))])){base:Nat}:FV Tryz.prog 18 [(.p (cupP c)),(.p (intP k))] base (.p (blP true)) []:=by
  exact FV.fin Tryz.func18 rfl (o:=[bT,bT,bT,bT,bF,bF,bF,bF,bF,bF,bF,bF,bF,bF,bF,.k 4 ⟨(rng [(0,29),(32,7)]),[],[],[]⟩ .ret (setS (grt_S0 c i'0) [(4,(.kb true))])]) (l:=[_,_,_,_,_,_,_,_,_,_,_,_,_,_,_,_]) (by kernel_rfl) (gc hl4.code (gc (q_ltF h3) (gc (q_ltF h2) (gc (q_ltF h2) (gc (q_ltF h2) (gc (q_ltF h2) (gc (q_ltF h2) (gc (q_leF h1) (gc (q_leF h1) (gc (q_leF h1) (gc (q_leF h1) (gc (q_leF h1) (gc (q_lt h0) (gc (q_lt h0) (gc (q_lt h0) (gc (q_lt h0) gn))))))))))))))))
theorem grt_p5{c:Cup}{k:Int}(h0:c.sk≤k)(h1:(65:Int)<(c.pts.length:Int)){base:Nat}:FV Tryz.prog 18 [(.p (cupP c)),(.p (intP k))] base (.p (blP true)) []:=by
  exact FV.fin Tryz.func18 rfl (o:=[bF,bF,bF,bF,bT,bT,bT,bT,bT]) (l:=[_,_,_,_,_,_,_,_,_]) (by kernel_rfl) (gc (q_lt h1) (gc (q_lt h1) (gc (q_lt h1) (gc (q_lt h1) (gc (q_lt h1) (gc (q_ltF h0) (gc (q_ltF h0) (gc (q_ltF h0) (gc (q_ltF h0) gn)))))))))
theorem grt_p6{c:Cup}{k:Int}(h0:c.sk≤k)(h1:(c.pts.length:Int)≤(65:Int))(h2:(25:Int)<(c.done.length:Int)){base:Nat}:FV Tryz.prog 18 [(.p (cupP c)),(.p (intP k))] base (.p (blP true)) []:=by
  exact FV.fin Tryz.func18 rfl (o:=[bF,bF,bF,bF,bF,bF,bF,bF,bF,bT]) (l:=[_,_,_,_,_,_,_,_,_,_]) (by kernel_rfl) (gc (q_lt h2) (gc (q_ltF h1) (gc (q_ltF h1) (gc (q_ltF h1) (gc (q_ltF h1) (gc (q_ltF h1) (gc (q_ltF h0) (gc (q_ltF h0) (gc (q_ltF h0) (gc (q_ltF h0) gn))))))))))
theorem grt_p7{c:Cup}{k:Int}{i'0:Nat}(h0:c.sk≤k)(h1:(c.pts.length:Int)≤(65:Int))(h2:(c.done.length:Int)≤(25:Int))(hl3:LoopOK Tryz.prog 0 zU3c0 (grt_S0 c 0) (.exit 0) (grt_S0 c i'0)){base:Nat}:FV Tryz.prog 18 [(.p (cupP c)),(.p (intP k))] base (.p (blP false)) []:=by
  exact FV.fin Tryz.func18 rfl (o:=[bF,bF,bF,bF,bF,bF,bF,bF,bF,bF,.k 4 ⟨(rng [(0,29),(32,7)]),[],[],[]⟩ (.exit 0) (grt_S0 c i'0)]) (l:=[_,_,_,_,_,_,_,_,_,_,_]) (by kernel_rfl) (gc hl3.code (gc (q_ltF h2) (gc (q_ltF h1) (gc (q_ltF h1) (gc (q_ltF h1) (gc (q_ltF h1) (gc (q_ltF h1) (gc (q_ltF h0) (gc (q_ltF h0) (gc (q_ltF h0) (gc (q_ltF h0) gn)))))))))))
theorem grt_p8{c:Cup}{k:Int}{i'0:Nat}(h0:c.sk≤k)(h1:(c.pts.length:Int)≤(65:Int))(h2:(c.done.length:Int)≤(25:Int))(hl3:LoopOK Tryz.prog 0 zU3c0 (grt_S0 c 0) .ret (setS (grt_S0 c i'0) [(4,(.kb true))])){base:Nat}:FV Tryz.prog 18 [(.p (cupP c)),(.p (intP k))] base (.p (blP true)) []:=by
  exact FV.fin Tryz.func18 rfl (o:=[bF,bF,bF,bF,bF,bF,bF,bF,bF,bF,.k 4 ⟨(rng [(0,29),(32,7)]),[],[],[]⟩ .ret (setS (grt_S0 c i'0) [(4,(.kb true))])]) (l:=[_,_,_,_,_,_,_,_,_,_,_]) (by kernel_rfl) (gc hl3.code (gc (q_ltF h2) (gc (q_ltF h1) (gc (q_ltF h1) (gc (q_ltF h1) (gc (q_ltF h1) (gc (q_ltF h1) (gc (q_ltF h0) (gc (q_ltF h0) (gc (q_ltF h0) (gc (q_ltF h0) gn)))))))))))
theorem grt_L0_p0{c:Cup}{i:Nat}{x100:List Int}(h0:(i:Int)<(c.done.length:Int))(h1:c.done[i]? = some x100)(h2:(16:Int)<(x100.length:Int)):CodeOK Tryz.prog 0 zU3c0 (grt_S0 c i) .ret (setS (grt_S0 c i) [(4,(.kb true))]):=by
  exact CodeOK.fin (g:=⟨(rng [(0,4),(5,24),(32,7)]),[],[],[]⟩) (o:=[bT,.x (intsP x100),bT]) (l:=[_,_,_,_]) (by kernel_rfl) (gc (q_lt h2) (gc (atm intsP h1) (gc (ixn intsP h1) (gc (q_lt h0) gn))))
theorem grt_L0_p1{c:Cup}{i:Nat}{x100:List Int}{i':Nat}(h0:(i:Int)<(c.done.length:Int))(h1:c.done[i]? = some x100)(h2:(x100.length:Int)≤(16:Int))(h3:inR (((i+1):Nat):Int))(ei':i'=(i+1)):CodeOK Tryz.prog 0 zU3c0 (grt_S0 c i) .normal (grt_S0 c i'):=by
  subst ei'
  exact CodeOK.fin (g:=⟨(rng [(0,29),(32,7)]),[],[],[]⟩) (o:=[bT,.x (intsP x100),bF]) (l:=[_,_,_,_,_]) (by kernel_rfl) (gc h3 (gc (q_ltF h2) (gc (atm intsP h1) (gc (ixn intsP h1) (gc (q_lt h0) gn)))))
theorem grt_L0_p2{c:Cup}{i:Nat}(h0:(c.done.length:Int)≤(i:Int)):CodeOK Tryz.prog 0 zU3c0 (grt_S0 c i) (.exit 0) (grt_S0 c i):=by
  exact CodeOK.fin (g:=⟨(rng [(0,29),(32,7)]),[],[],[]⟩) (o:=[bF]) (l:=[_]) (by kernel_rfl) (gc (q_ltF h0) gn)
def grtB(c:Cup)(k:Int):Bool:=(decide (k<c.sk) && decide (c.sk≤12)) || decide (65<c.pts.length) || decide (25<c.done.length) || c.done.any fun r=>decide (16<r.length)
theorem grt_loop(c:Cup)(hl:c.done.length≤25):((c.done.any fun r=>decide (16<r.length))=true∧∃ i,LoopOK Tryz.prog 0 zU3c0 (grt_S0 c 0) .ret (setS (grt_S0 c i) [(4,.kb true)]))∨((c.done.any fun r=>decide (16<r.length))=false∧∃ i,LoopOK Tryz.prog 0 zU3c0 (grt_S0 c 0) (.exit 0) (grt_S0 c i)):=by
  rcases LoopOK.find (P:=Tryz.prog) (k:=0) (b:=zU3c0) (fun i=>grt_S0 c i) (fun i _=>setS (grt_S0 c i) [(4,.kb true)]) (grt_S0 c c.done.length) .ret (.exit 0) (by simp) (by simp) (fun r:List Int=>decide (16<r.length)) c.done
    (fun i x hx hp=>grt_L0_p1 (by have:=lt_of_at hx;omega) hx (by have:=of_decide_eq_false hp;omega) (inR_nat (by have:=lt_of_at hx;omega)) rfl)
    (fun i x hx hp=>grt_L0_p0 (by have:=lt_of_at hx;omega) hx (by have:=of_decide_eq_true hp;omega))
    (grt_L0_p2 (by omega)) with ⟨j,y,g1,g2,g3,g4⟩ | ⟨_,g1,g2⟩
  · exact .inl ⟨List.any_eq_true.2 ⟨y,List.mem_of_getElem? g1,g3⟩,_,g4⟩
  · exact .inr ⟨g1,_,g2⟩
theorem grt_ok(c:Cup)(k:Int){base:Nat}:FV Tryz.prog 18 [.p (cupP c),.p (intP k)] base (.p (blP (grtB c k))) []:=by
  unfold grtB
  by_cases a1:k<c.sk
  · by_cases a2:c.sk≤12
    · simp only [a1,a2,decide_true,Bool.and_true,Bool.true_or]
      exact grt_p0 a1 a2
    · by_cases a3:65<c.pts.length
      · simp only [a2,a3,decide_true,decide_false,Bool.and_false,Bool.false_or,Bool.true_or]
        exact grt_p1 a1 (by omega) (by omega)
      · by_cases a4:25<c.done.length
        · simp only [a2,a3,a4,decide_true,decide_false,Bool.and_false,Bool.false_or,Bool.true_or]
          exact grt_p2 a1 (by omega) (by omega) (by omega)
        · simp only [a2,a3,a4,decide_false,Bool.and_false,Bool.false_or]
          rcases grt_loop c (by omega) with ⟨e,i,h⟩ | ⟨e,i,h⟩
          · rw [e];exact grt_p4 a1 (by omega) (by omega) (by omega) h
          · rw [e];exact grt_p3 a1 (by omega) (by omega) (by omega) h
  · by_cases a3:65<c.pts.length
    · simp only [a1,a3,decide_true,decide_false,Bool.false_and,Bool.false_or,Bool.true_or]
      exact grt_p5 (by omega) (by omega)
    · by_cases a4:25<c.done.length
      · simp only [a1,a3,a4,decide_true,decide_false,Bool.false_and,Bool.false_or,Bool.true_or]
        exact grt_p6 (by omega) (by omega) (by omega)
      · simp only [a1,a3,a4,decide_false,Bool.false_and,Bool.false_or]
        rcases grt_loop c (by omega) with ⟨e,i,h⟩ | ⟨e,i,h⟩
        · rw [e];exact grt_p8 (by omega) (by omega) (by omega) h
        · rw [e];exact grt_p7 (by omega) (by omega) (by omega) h
theorem grt_small{c:Cup}{k:Int}(h:grtB c k=false):KL.Small c∧c.pts.length≤65∧c.done.length≤25∧(∀ r∈c.done,r.length≤16)∧(c.sk≤k∨12<c.sk):=by
  unfold grtB at h
  simp only [Bool.or_eq_false_iff,Bool.and_eq_false_iff,decide_eq_false_iff_not,List.any_eq_false,decide_eq_true_eq] at h
  obtain ⟨⟨⟨h1,h2⟩,h3⟩,h4⟩:=h
  have h5:∀ r∈c.done,r.length≤16:=fun r hr=>by have:=h4 r hr;omega
  exact ⟨⟨by omega,by omega,fun r hr=>by have:=h5 r hr;omega⟩,by omega,by omega,h5,by omega⟩
def eqa_S0(a:List (List Int))(i:Nat):St:=⟨fr 27 [(0,(.p (rowsP a))),(1,(.p (rowsP a))),(12,(.p (intP (a.length:Int)))),(13,(.p (intP (i:Int))))],[]⟩
theorem eqa_p0{a:List (List Int)}{i'0:Nat}(h0:(a.length:Int)=(a.length:Int))(hl1:LoopOK Tryz.prog 0 zU3c8 (eqa_S0 a 0) (.exit 0) (eqa_S0 a i'0)){base:Nat}:FV Tryz.prog 46 [(.p (rowsP a)),(.p (rowsP a))] base (.p (blP true)) []:=by
  exact FV.fin Tryz.func46 rfl (o:=[bF,.k 4 ⟨(rng [(2,10),(14,13)]),[],[],[]⟩ (.exit 0) (eqa_S0 a i'0)]) (l:=[_,_]) (by kernel_rfl) (gc hl1.code (gc (q_neF h0) gn))
theorem eqa_L0_p1{a:List (List Int)}{i:Nat}{x100:List Int}{i':Nat}(h0:(i:Int)<(a.length:Int))(h1:a[i]? = some x100)(h2:x100.length≤100000)(h3:(decide (x100=x100))=true)(h4:inR (((i+1):Nat):Int))(ei':i'=(i+1)):CodeOK Tryz.prog 0 zU3c8 (eqa_S0 a i) .normal (eqa_S0 a i'):=by
  subst ei'
  exact CodeOK.fin (g:=⟨(rng [(2,10),(14,13)]),[],[],[]⟩) (o:=[bT,.x (intsP x100),.x (intsP x100),.c (.p (blP (decide (x100=x100)))) [],bF]) (l:=[_,_,_,_,_,_,_,_]) (by kernel_rfl) (gc h4 (gc (q_notF h3) (gc (fk 0 (eqi_ok x100 x100 h2) rfl) (gc (atm intsP h1) (gc (ixn intsP h1) (gc (atm intsP h1) (gc (ixn intsP h1) (gc (q_lt h0) gn))))))))
theorem eqa_L0_p2{a:List (List Int)}{i:Nat}(h0:(a.length:Int)≤(i:Int)):CodeOK Tryz.prog 0 zU3c8 (eqa_S0 a i) (.exit 0) (eqa_S0 a i):=by
  exact CodeOK.fin (g:=⟨(rng [(2,10),(14,13)]),[],[],[]⟩) (o:=[bF]) (l:=[_]) (by kernel_rfl) (gc (q_ltF h0) gn)
theorem eqa_ok(a b:List (List Int))(hb:b=a)(hl:a.length≤1000∧∀ r∈a,r.length≤1000){base:Nat}:FV Tryz.prog 46 [.p (rowsP a),.p (rowsP b)] base (.p (blP true)) []:=by
  subst hb
  have h:=LoopOK.count (P:=Tryz.prog) (k:=0) (b:=zU3c8) (e := .exit 0) (R:=eqa_S0 b b.length) b.length (fun i=>eqa_S0 b i)
    (fun i hi=>eqa_L0_p1 (by omega) (List.getElem?_eq_getElem hi) (by have:=hl.2 _ (List.getElem_mem hi);omega) (by simp) (inR_nat (by have:=hl.1;omega)) rfl)
    (eqa_L0_p2 (by omega)) (by simp)
  exact eqa_p0 rfl h
theorem sam_p0{c:Cup}(h0:c.sk=c.sk)(h1:c.ra=c.ra)(h2:c.be=c.be)(h3:c.pts.length≤100000)(h4:(decide (c.pts=c.pts))=true)(h5:c.done=c.done)(h6:c.done.length≤1000∧∀ r∈c.done,r.length≤1000){base:Nat}:FV Tryz.prog 24 [(.p (cupP c)),(.p (cupP c))] base (.p (blP true)) []:=by
  exact FV.fin Tryz.func24 rfl (o:=[bT,bT,bT,bT,bT,bT,bT,bT,bT,bT,bT,bT,bT,bT,bT,bT,bT,.c (.p (blP (decide (c.pts=c.pts)))) [],bT,bT,bT,bT,bT,bT,.c (.p (blP true)) [],bT]) (l:=[_,_,_,_,_,_,_,_,_,_,_,_,_,_,_,_,_,_,_,_,_,_,_,_,_,_]) (by kernel_rfl) (gc h4 (gc (fk 2 (eqa_ok c.done c.done h5 h6) rfl) (gc h4 (gc h4 (gc h4 (gc h4 (gc h4 (gc (q_eq h2) (gc (fk 2 (eqi_ok c.pts c.pts h3) rfl) (gc (q_eq h2) (gc (q_eq h2) (gc (q_eq h2) (gc (q_eq h2) (gc (q_eq h2) (gc (q_eq h1) (gc (q_eq h1) (gc (q_eq h1) (gc (q_eq h1) (gc (q_eq h1) (gc (q_eq h1) (gc (q_eq h0) (gc (q_eq h0) (gc (q_eq h0) (gc (q_eq h0) (gc (q_eq h0) (gc (q_eq h0) gn))))))))))))))))))))))))))
theorem sam_ok(c d:Cup)(h:d=c)(hS:KL.Small c){base:Nat}:FV Tryz.prog 24 [.p (cupP c),.p (cupP d)] base (.p (blP true)) []:=by
  subst h
  exact sam_p0 rfl rfl rfl (by have:=hS.pts;omega) (by simp) rfl ⟨hS.done,hS.rows⟩
end
section
open KL
theorem named_inv{c:Cup}(k:Int)(h:checkP c≠0):namedE c k=checkP c:=by unfold namedE;rw [if_pos h]
theorem named_out{c:Cup}(hV:KL.Valid c){k:Int}(h:k<0∨c.sk≤k):namedE c k=1:=by
  unfold namedE
  rw [if_neg (fun q=>q ((KL.valid_iff c).2 hV)),if_neg (by simp [within];omega)]
theorem totalsUp_succ(c:Cup)(n:Nat):KL.totalsUp c (n+1)=KL.totalsUp c n++[totalM c n]:=by
  unfold KL.totalsUp
  rw [List.range_succ,List.map_append];rfl
end
section
open KL
end
section
open KL Go.RowKit Go.Lib Go.Sort Go.Shelf
def NSh(r:List Int):Prop:=∀ p:Int,p≠0→r.count p≤1
theorem NSh.nodup{r:List Int}(h:NSh r):(r.filter fun x => !KL.nz x).Nodup:=by
  rw [List.nodup_iff_count]
  intro a
  by_cases e:a=0
  · subst e
    rw [List.count_eq_zero.2 (fun hm=>by have:=(List.mem_filter.1 hm).2;simp [KL.nz] at this)]
    omega
  · rw [List.count_filter (by simp [KL.nz,e])]
    exact h a e
def plT(_:List Int):Bool:=true
theorem NSh.new{ord:List Int}{n i:Nat}{o:List Int}{pl:Int}{la:List Int}(h:KL.RInv ord n i o pl la)(hin:∀ x∈ord,0≤x∧x.toNat<n){x d:Int}(hx:ord[i]? = some x)(hd:0≤d)(hs:NSh o):NSh (o.set x.toNat (pl+d)):=by
  obtain ⟨x0,x1⟩:=hin x (List.mem_of_getElem? hx)
  have hp1:=h.p1
  have hk:x.toNat<o.length:=by rw [h.len];exact x1
  have hz:=h.zero i x (Nat.le_refl _) hx
  have hno:pl+d∉o:=fun hm=>by
    have:=(h.cl _ hm (by omega)).1
    have:=KL.count_pos' hm
    omega
  intro p hp
  rw [KL.count_setZ hk hz hp]
  by_cases e:pl+d=p
  · subst e;rw [if_pos rfl,List.count_eq_zero.2 hno];omega
  · rw [if_neg e];exact hs p hp
structure FurN (c:Cup) (F:List (List Int)):Prop where
  fur:Fur c F
  ns:∀ x∈F,NSh x
end
section
open KL
def ptP(pts:List Int)(p:Int):Int:=if p=0 then 0 else pts.getD (p.toNat-1) 0
theorem score_ns{pts r:List Int}(hN:NSh r){o:Nat}(ho:o<r.length):scoreM pts r o=ptP pts (r.getD o 0):=by
  unfold scoreM ptP
  by_cases e:r.getD o 0=0
  · rw [if_pos e,if_pos e]
  · have hm:r.getD o 0∈r:=by rw [List.getD_eq_getElem?_getD,List.getElem?_eq_getElem ho];exact List.getElem_mem _
    have h1:=hN _ e
    have h2:=KL.count_pos' hm
    have hc:r.count (r.getD o 0)=1:=by omega
    rw [if_neg e,if_neg e,hc]
    have hw:=KL.worth_snoc pts (r.getD o 0).toNat 0
    have h0:KL.worthM pts (r.getD o 0).toNat 0=0:=by unfold KL.worthM;simp
    rw [hw,h0];simp
theorem ptP_nn{pts:List Int}(h0:∀ x∈pts,0≤x)(p:Int):0≤ptP pts p:=by
  unfold ptP
  split
  · omega
  · rw [List.getD_eq_getElem?_getD]
    cases e:pts[p.toNat-1]? with
    | none=>simp
    | some x=>exact h0 x (List.mem_of_getElem? e)
def noW(p q:Int):Prop:=q=0∨0<p∧p≤q
theorem ptP_mono{pts:List Int}(hf:KL.fallsB pts=true)(h0:∀ x∈pts,0≤x){p q:Int}(h:noW p q):ptP pts q≤ptP pts p:=by
  rcases h with rfl | ⟨h1,h2⟩
  · unfold ptP;rw [if_pos rfl];exact ptP_nn h0 p
  · unfold ptP
    rw [if_neg (by omega),if_neg (by omega)]
    have:=KL.falls_le hf h0 (q.toNat-1-(p.toNat-1)) (p.toNat-1)
    rwa [show p.toNat-1+(q.toNat-1-(p.toNat-1))=q.toNat-1 by omega] at this
theorem pos_mono{a b:Int}(h:a≤b):pos a≤pos b:=by unfold pos;split <;> split <;> omega
theorem ns_inj{r:List Int}{i j:Nat}(hi:i<r.length):r.count r[i]≤1→∀ hj:j<r.length,r[i]=r[j]→i=j:=by
  intro h hj e
  rcases Nat.lt_trichotomy i j with hl | hl | hl
  · have h1:(r.take j).count r[i] ≥ 1:=List.count_pos_iff.2 (List.mem_take_iff_getElem.2 ⟨i,by omega,rfl⟩)
    have h2:(r.drop j).count r[i] ≥ 1:=List.count_pos_iff.2 (by rw [List.drop_eq_getElem_cons hj,e];exact List.mem_cons_self ..)
    have h3:r.count r[i]=(r.take j).count r[i]+(r.drop j).count r[i]:=by rw [← List.count_append,List.take_append_drop]
    omega
  · exact hl
  · have h1:(r.take i).count r[i] ≥ 1:=List.count_pos_iff.2 (List.mem_take_iff_getElem.2 ⟨j,by omega,e.symm⟩)
    have h2:(r.drop i).count r[i] ≥ 1:=List.count_pos_iff.2 (by rw [List.drop_eq_getElem_cons hi];exact List.mem_cons_self ..)
    have h3:r.count r[i]=(r.take i).count r[i]+(r.drop i).count r[i]:=by rw [← List.count_append,List.take_append_drop]
    omega
section
variable {c:Cup} {r1 r2:List Int} {o s:Nat}
theorem dom_place(hV:KL.Valid c)(hV2:KL.Valid (withC c [r2]))(hN1:NSh r1)(hN2:NSh r2)(hl1:o<r1.length)(hl2:o<r2.length)(h1:0≤r1.getD o 0)(h:noW (r2.getD o 0) (r1.getD o 0)):Dom (withC c [r1]) (withC c [r2]) o:=by
  refine ⟨?_,?_⟩
  · rw [total_top,total_top]
    refine top_mono (srtS_pw _ _) (srtS_nn hV2 o) fun t ht => ?_
    rw [ov_with,ov_with]
    have e1:scR c o r1=ptP c.pts (r1.getD o 0):=score_ns hN1 hl1
    have e2:scR c o r2=ptP c.pts (r2.getD o 0):=score_ns hN2 hl2
    have h3:=ptP_mono hV.falls (fun x hx=>(hV.pts x hx).1) h
    have:ov t ([r1].map (scR c o))≤ov t ([r2].map (scR c o)):=by
      simp only [ov,List.map_cons,List.map_nil,List.sum_cons,List.sum_nil,e1,e2]
      have:=pos_mono (show ptP c.pts (r1.getD o 0)-t≤ptP c.pts (r2.getD o 0)-t by omega)
      omega
    omega
  · have cn:∀ (r:List Int) (p:Nat),cntP [r] o p=if r.getD o 0=(p:Int) then 1 else 0:=fun r p=>by
      unfold cntP
      rw [List.countP_cons,List.countP_nil,Nat.zero_add]
      by_cases e:r.getD o 0=(p:Int)
      · rw [if_pos e,if_pos (decide_eq_true e)]
      · rw [if_neg e,if_neg (by rw [decide_eq_true_eq];exact e)]
    rcases h with h | ⟨h2,h3⟩
    · refine lexGe_of fun p p1 p2 => ?_
      rw [places_with p1 p2,places_with p1 p2,cn,cn,if_neg (c:=r1.getD o 0=(p:Int)) (by omega)]
      omega
    · by_cases e:r2.getD o 0=r1.getD o 0
      · refine .inl fun p p1 p2 => ?_
        rw [places_with p1 p2,places_with p1 p2,cn,cn,e]
      · by_cases h60:r2.getD o 0≤60
        · refine .inr ⟨(r2.getD o 0).toNat,by omega,by omega,?_,fun j j1 j2 => ?_⟩
          · have q1:r2.getD o 0=((r2.getD o 0).toNat:Int):=by omega
            have q2:¬ r1.getD o 0=((r2.getD o 0).toNat:Int):=by omega
            rw [places_with (by omega) (by omega),places_with (by omega) (by omega),cn,cn,if_pos q1,if_neg q2]
            omega
          · rw [places_with j1 (by omega),places_with j1 (by omega),cn,cn,if_neg (by omega),if_neg (by omega)]
        · refine .inl fun p p1 p2 => ?_
          rw [places_with p1 p2,places_with p1 p2,cn,cn,if_neg (by omega),if_neg (by omega)]
theorem race2_at(n:Nat)(p w:Int)(ho:o<n)(hs:s<n)(hne:o≠s):(KL.race2 n o p s w).getD o 0=p∧(KL.race2 n o p s w).getD s 0=w:=by
  unfold KL.race2
  refine ⟨?_,?_⟩
  · rw [List.getD_eq_getElem?_getD,List.getElem?_set_ne (Ne.symm hne),List.getElem?_set_self (by simpa using ho)];rfl
  · rw [List.getD_eq_getElem?_getD,List.getElem?_set_self (by simpa using hs)];rfl
theorem race2_ns{n:Nat}{p w:Int}(hne:p=0∨w=0∨p≠w):NSh (KL.race2 n o p s w):=by
  intro x hx
  unfold KL.race2
  have h1:=KL.count_set_le (l:=(List.replicate n (0:Int)).set o p) (i:=s) (x:=w) (y:=x)
  have h2:=KL.count_set_le (l:=List.replicate n (0:Int)) (i:=o) (x:=p) (y:=x)
  have h3:(List.replicate n (0:Int)).count x=0:=List.count_eq_zero.2 fun h=>hx (List.eq_of_mem_replicate h)
  split at h1 <;> split at h2 <;> omega

structure LastOK (c:Cup) (s:Nat):Prop where
  hv:KL.Valid c
  hd:(c.done.length:Int)<c.ra
  hs:s<c.sk.toNat
structure RaceN (c:Cup) (r:List Int):Prop where
  ok:KL.RaceOK c.sk.toNat r
  ns:NSh r
theorem RaceN.valid(hL:LastOK c s)(h:RaceN c r1):KL.Valid (withC c [r1]):=by
  have:=hL.hv.sk1
  exact KL.valid_race hL.hv hL.hd (by rw [h.ok.len];omega) h.ok.bd h.ok.cl
theorem beats_mono(hL:LastOK c s)(ho:o<c.sk.toNat)(hne:o≠s){p w p' w':Int}(b1:0≤p∧p≤60)(b2:0≤w∧w≤60)(b3:0≤p'∧p'≤60)(b4:0≤w'∧w'≤60)(n1:p=0∨w=0∨p≠w)(n2:p'=0∨w'=0∨p'≠w')
    (hp:noW p' p) (hw:noW w w') (h:beatsM c o p s w=true):beatsM c o p' s w'=true:=by
  have hs:=hL.hs
  obtain ⟨x1,x2⟩:=race2_at c.sk.toNat p w ho hs hne
  obtain ⟨x3,x4⟩:=race2_at c.sk.toNat p' w' ho hs hne
  have v1:=KL.valid_race2 hL.hv hL.hd (o:=o) (s:=s) b1 b2 n1
  have v2:=KL.valid_race2 hL.hv hL.hd (o:=o) (s:=s) b3 b4 n2
  have m1:=race2_ns (n:=c.sk.toNat) (o:=o) (s:=s) n1
  have m2:=race2_ns (n:=c.sk.toNat) (o:=o) (s:=s) n2
  have l1:=KL.race2_length c.sk.toNat o p s w
  have l2:=KL.race2_length c.sk.toNat o p' s w'
  refine betS_dom (dom_place hL.hv v2 m1 m2 (by omega) (by omega) (by omega) (by rw [x1,x3];exact hp)) (dom_place hL.hv v1 m2 m1 (by omega) (by omega) (by omega) (by rw [x2,x4];exact hw)) h
theorem bet_race(hL:LastOK c s)(hr:RaceN c r1)(ho:o<c.sk.toNat)(hne:o≠s):betS (withC c [r1]) o s=beatsM c o (r1.getD o 0) s (r1.getD s 0):=by
  have hs:=hL.hs
  have bd:∀ x,x<c.sk.toNat→0≤r1.getD x 0∧r1.getD x 0≤60:=fun x hx=>by
    rw [List.getD_eq_getElem?_getD,List.getElem?_eq_getElem (by rw [hr.ok.len];exact hx)]
    exact hr.ok.bd _ (List.getElem_mem _)
  have b1:=bd o ho
  have b2:=bd s hs
  have n1:r1.getD o 0=0∨r1.getD s 0=0∨r1.getD o 0≠r1.getD s 0:=by
    by_cases e:r1.getD o 0=0
    · exact .inl e
    · refine .inr (.inr fun e2 => ?_)
      have h1:=hr.ns _ e
      have ho':o<r1.length:=by rw [hr.ok.len];exact ho
      have hs':s<r1.length:=by rw [hr.ok.len];exact hs
      rw [List.getD_eq_getElem?_getD,List.getElem?_eq_getElem ho',List.getD_eq_getElem?_getD,List.getElem?_eq_getElem hs'] at e2
      rw [List.getD_eq_getElem?_getD,List.getElem?_eq_getElem ho'] at h1
      exact hne (ns_inj ho' h1 hs' e2)
  obtain ⟨x1,x2⟩:=race2_at c.sk.toNat (r1.getD o 0) (r1.getD s 0) ho hs hne
  have v1:=KL.valid_race2 hL.hv hL.hd (o:=o) (s:=s) b1 b2 n1
  have v2:=hr.valid hL
  have m1:=race2_ns (n:=c.sk.toNat) (o:=o) (s:=s) n1
  have l1:=KL.race2_length c.sk.toNat o (r1.getD o 0) s (r1.getD s 0)
  have lr:=hr.ok.len
  have rf:∀ x:Int,0≤x→noW x x:=fun x hx=>by unfold noW;omega
  have d1:∀ x,(x=o∨x=s)→Dom (withC c [r1]) (withC c [KL.race2 c.sk.toNat o (r1.getD o 0) s (r1.getD s 0)]) x:=fun x hx=>by
    rcases hx with rfl | rfl
    · exact dom_place hL.hv v1 hr.ns m1 (by omega) (by omega) b1.1 (by rw [x1];exact rf _ b1.1)
    · exact dom_place hL.hv v1 hr.ns m1 (by omega) (by omega) b2.1 (by rw [x2];exact rf _ b2.1)
  have d2:∀ x,(x=o∨x=s)→Dom (withC c [KL.race2 c.sk.toNat o (r1.getD o 0) s (r1.getD s 0)]) (withC c [r1]) x:=fun x hx=>by
    rcases hx with rfl | rfl
    · exact dom_place hL.hv v2 m1 hr.ns (by omega) (by omega) (by omega) (by rw [x1];exact rf _ b1.1)
    · exact dom_place hL.hv v2 m1 hr.ns (by omega) (by omega) (by omega) (by rw [x2];exact rf _ b2.1)
  rw [Bool.eq_iff_iff]
  exact ⟨fun h=>betS_dom (d1 o (.inl rfl)) (d2 s (.inr rfl)) h,fun h=>betS_dom (d2 o (.inl rfl)) (d1 s (.inr rfl)) h⟩
end
end
section
open KL
theorem nodup_bd:∀ (n:Nat) (l:List Int),l.Nodup→(∀ x∈l,1≤x∧x≤n)→l.length≤n
  | 0,l,_,h=>by
    cases l with
    | nil=>simp
    | cons x r=>have:=h x (by simp);omega
  | n+1,l,hn,h=>by
    have h1:=nodup_bd n (l.filter fun x=>decide (x≠((n+1:Nat):Int))) (hn.filter _) (fun x hx=>by
      obtain ⟨a,b⟩:=List.mem_filter.1 hx
      have:=h x a
      have:=of_decide_eq_true b
      omega)
    have h2:=List.length_eq_countP_add_countP (l:=l) (fun x=>decide (x≠((n+1:Nat):Int)))
    have h3:l.count ((n+1:Nat):Int)≤1:=List.nodup_iff_count.1 hn _
    have h4:l.countP (fun a=>decide ¬(decide (a≠((n+1:Nat):Int))=true))=l.count ((n+1:Nat):Int):=List.countP_congr fun x _=>by simp
    rw [h4,List.countP_eq_length_filter] at h2
    omega

section
variable {α:Type}
def edS(D:α→Int)(a:Int × Int)(x:α):Int × Int:=if 60<D x then (a.1+1,a.2) else if a.2≤D x then (a.1+1,a.2+1) else a
theorem edf{D q:α→Int}{P:α→Bool}:∀ (R pre:List α) (a n:Int),(pre.countP P:Int)≤a-1→n≤a→(pre++R).Pairwise (fun x y=>D x≤D y)→(∀ x∈pre++R,P x=true→60<D x∨1≤q x∧q x≤D x) →
    (pre++R).Pairwise (fun x y=>P x=true→P y=true→D x≤60→D y≤60→q x≠q y)→((pre++R).countP P:Int)≤(R.foldl (edS D) (a,n)).1-1
  | [],pre,a,n,h1,_,_,_,_=>by simpa using h1
  | x::R,pre,a,n,h1,h2,hs,hq,hd=>by
    have hp:((pre++[x]).countP P:Int)≤pre.countP P+1:=by
      rw [List.countP_append,List.countP_cons,List.countP_nil]
      split <;> omega
    rw [List.append_cons] at hs hq hd ⊢
    rw [List.foldl_cons]
    have IH:=fun a n g1 g2=>edf (D:=D) (q:=q) (P:=P) R (pre++[x]) a n g1 g2 hs hq hd
    unfold edS
    by_cases g1:60<D x
    · rw [if_pos g1];exact IH (a+1) n (by omega) (by omega)
    · rw [if_neg g1]
      by_cases g2:n≤D x
      · rw [if_pos g2];exact IH (a+1) (n+1) (by omega) (by omega)
      · rw [if_neg g2]
        refine IH a n ?_ h2
        have hs1:=(List.pairwise_append.1 hs).1
        have hd1:=(List.pairwise_append.1 hd).1
        have hle:∀ y∈pre++[x],D y≤D x:=fun y hy=>by
          rcases List.mem_append.1 hy with h | h
          · exact (List.pairwise_append.1 hs1).2.2 y h x (by simp)
          · rw [List.mem_singleton.1 h];omega
        have hnd:(((pre++[x]).filter P).map q).Nodup:=by
          refine List.pairwise_map.2 ?_
          refine List.Pairwise.imp_of_mem (fun {y z} hy hz h => ?_) (hd1.filter P)
          obtain ⟨m1,m2⟩:=List.mem_filter.1 hy
          obtain ⟨m3,m4⟩:=List.mem_filter.1 hz
          have:=hle y m1
          have:=hle z m3
          exact h m2 m4 (by omega) (by omega)
        by_cases g3:1≤D x
        · have h3:=nodup_bd (D x).toNat _ hnd (fun v hv=>by
            obtain ⟨y,hy,rfl⟩:=List.mem_map.1 hv
            obtain ⟨m1,m2⟩:=List.mem_filter.1 hy
            have:=hle y m1
            rcases hq y (List.mem_append_left _ m1) m2 with h | h <;> omega)
          rw [List.length_map,← List.countP_eq_length_filter] at h3
          omega
        · have h3:(pre++[x]).countP P=0:=List.countP_eq_zero.2 fun y hy h=>by
            have:=hle y hy
            rcases hq y (List.mem_append_left _ hy) h with h | h <;> omega
          have:(0:Int)≤pre.countP P:=by omega
          omega
end

theorem upto_ge{f:Int→Bool}{p:Int}:∀ (n:Nat) (q:Int),(∀ x,q<x→x≤p→f x=true)→p≤q+n→p≤upto f n q
  | 0,q,_,h=>by unfold upto;omega
  | n+1,q,hf,h=>by
    unfold upto
    by_cases e:p≤q
    · have:=upto_bd f (n+1) q
      unfold upto at this
      omega
    · rw [if_pos (hf (q+1) (by omega) (by omega))]
      exact upto_ge n (q+1) (fun x h1 h2=>hf x (by omega) h2) (by omega)
theorem upto_so{f:Int→Bool}{x:Int}:∀ (n:Nat) (q:Int),q<x→x≤upto f n q→f x=true
  | 0,q,h1,h2=>by unfold upto at h2;omega
  | n+1,q,h1,h2=>by
    unfold upto at h2
    split at h2
    · rename_i h
      by_cases e:x=q+1
      · rw [e];exact h
      · exact upto_so n (q+1) (by omega) h2
    · omega
section
variable {c:Cup} {r:List Int} {o s:Nat}
theorem riv_free(h:60<rivPl c s o):beatsM c o 0 s 0=true:=by
  unfold rivPl at h
  split at h
  · assumption
  · have:=upto_bd (fun p=>beatsM c o p s 0) 60 0;omega
theorem riv_not(h:rivPl c s o≤60):beatsM c o 0 s 0=false:=by
  unfold rivPl at h
  split at h
  · omega
  · rename_i e;exact Bool.eq_false_iff.2 e
theorem riv_so{p:Int}(h0:rivPl c s o≤60)(h1:1≤p)(h2:p≤rivPl c s o):beatsM c o p s 0=true:=by
  unfold rivPl at h0 h2
  split at h0
  · omega
  · rename_i e
    rw [if_neg e] at h2
    exact upto_so (f:=fun p=>beatsM c o p s 0) 60 0 (by omega) h2
theorem riv_ge(hL:LastOK c s)(ho:o<c.sk.toNat)(hne:o≠s){p w:Int}(hp:0≤p∧p≤60)(hw:0≤w∧w≤60)(n1:p=0∨w=0∨p≠w)(h:beatsM c o p s w=true):60<rivPl c s o∨1≤p∧p≤rivPl c s o:=by
  have h1:beatsM c o p s 0=true:=beats_mono hL ho hne hp hw hp ⟨by omega,by omega⟩ n1 (.inr (.inl rfl)) (by unfold noW;omega) (by unfold noW;omega) h
  by_cases e:p=0
  · subst e
    left
    unfold rivPl
    rw [if_pos h1];omega
  · by_cases g:60<rivPl c s o
    · exact .inl g
    · refine .inr ⟨by omega,?_⟩
      have hf:=riv_not (c:=c) (s:=s) (o:=o) (by omega)
      unfold rivPl
      rw [if_neg (by rw [hf];simp)]
      refine upto_ge 60 0 (fun x h2 h3 => ?_) (by omega)
      exact beats_mono hL ho hne hp ⟨by omega,by omega⟩ ⟨by omega,by omega⟩ ⟨by omega,by omega⟩ (.inr (.inl rfl)) (.inr (.inl rfl)) (.inr ⟨by omega,h3⟩) (.inl rfl) h1
def rivB(c:Cup)(s i:Nat):Bool:=decide (i≠s) && decide (0<rivPl c s i)
def rivT(c:Cup)(s i:Nat):List Int:=[(i:Int),rivPl c s i]
theorem rivL_eq(c:Cup)(s:Nat):rivL c s=((List.range c.sk.toNat).filter (rivB c s)).map (rivT c s):=by
  unfold rivL
  induction List.range c.sk.toNat with
  | nil=>rfl
  | cons i l ih =>
    rw [List.flatMap_cons,ih,List.filter_cons]
    unfold rivG rivB
    by_cases e:i=s
    · simp [e]
    · by_cases e2:0<rivPl c s i
      · simp [e,e2,rivT]
      · simp [e,e2]
theorem rivM_perm(c:Cup)(s:Nat):(rivM c s).Perm (((List.range c.sk.toNat).filter (rivB c s)).map (rivT c s)):=by
  rw [← rivL_eq];exact isort_perm _ _
theorem rivM_pw(c:Cup)(s:Nat):(rivM c s).Pairwise fun x y=>x.getD 1 0≤y.getD 1 0 :=
  isort_sorted (f:=fun x:List Int=>x.getD 1 0) (lt:=ltK 1) (fun x y=>cmp_dec _ _) _
theorem rivM_nd(c:Cup)(s:Nat):(rivM c s).Pairwise fun x y=>x.getD 0 0≠y.getD 0 0:=by
  have h:((rivM c s).map fun x=>x.getD 0 0).Nodup:=by
    rw [((rivM_perm c s).map fun x:List Int=>x.getD 0 0).nodup_iff,List.map_map]
    refine List.pairwise_map.2 ((List.pairwise_lt_range.filter _).imp fun {a b} h => ?_)
    show (a:Int)≠b
    omega
  exact List.pairwise_map.1 h
def afB(c:Cup)(r:List Int)(s:Nat)(x:List Int):Bool:=betS (withC c [r]) (x.getD 0 0).toNat s
theorem place_bd(hr:RaceN c r){x:Nat}(hx:x<c.sk.toNat):0≤r.getD x 0∧r.getD x 0≤60:=by
  rw [List.getD_eq_getElem?_getD,List.getElem?_eq_getElem (by rw [hr.ok.len];exact hx)]
  exact hr.ok.bd _ (List.getElem_mem _)
theorem place_ne(hr:RaceN c r)(ho:o<c.sk.toNat)(hs:s<c.sk.toNat)(hne:o≠s):r.getD o 0=0∨r.getD s 0=0∨r.getD o 0≠r.getD s 0:=by
  by_cases e:r.getD o 0=0
  · exact .inl e
  · refine .inr (.inr fun e2 => ?_)
    have h1:=hr.ns _ e
    have ho':o<r.length:=by rw [hr.ok.len];exact ho
    have hs':s<r.length:=by rw [hr.ok.len];exact hs
    rw [List.getD_eq_getElem?_getD,List.getElem?_eq_getElem ho',List.getD_eq_getElem?_getD,List.getElem?_eq_getElem hs'] at e2
    rw [List.getD_eq_getElem?_getD,List.getElem?_eq_getElem ho'] at h1
    exact hne (ns_inj ho' h1 hs' e2)
theorem rank_rivals(hL:LastOK c s)(hr:RaceN c r):rankM (withC c [r]) s=1+((rivM c s).countP (afB c r s):Nat):=by
  rw [rank_ref]
  unfold bttrUp
  rw [(rivM_perm c s).countP_eq,List.countP_map,List.countP_filter]
  congr 2
  refine List.countP_congr fun i hi => ?_
  have hi':i<c.sk.toNat:=List.mem_range.1 hi
  show betS (withC c [r]) i s=true↔_
  have e:(afB c r s ∘ rivT c s) i=betS (withC c [r]) i s:=by
    show betS (withC c [r]) ((i:Int).toNat) s=_
    rw [Int.toNat_natCast]
  rw [e,Bool.and_eq_true]
  refine ⟨fun h=>⟨h,?_⟩,fun h=>h.1⟩
  unfold rivB
  by_cases hne:i=s
  · subst hne;rw [betS_self] at h;cases h
  · rw [bet_race hL hr hi' hne] at h
    have:=riv_ge hL hi' hne (place_bd hr hi') (place_bd hr hL.hs) (place_ne hr hi' hL.hs hne) h
    have h2:0<rivPl c s i:=by omega
    simp [hne,h2]
theorem worst_ed(c:Cup)(R:List (List Int)):∀ a:Int × Int × List Int,((R.foldl wStep a).1,(R.foldl wStep a).2.1)=R.foldl (edS fun x:List Int=>x.getD 1 0) (a.1,a.2.1):=by
  induction R with
  | nil=>intro a;rfl
  | cons x R ih =>
    intro a
    rw [List.foldl_cons,List.foldl_cons,ih]
    congr 1
    unfold wStep edS
    split
    · rfl
    · split <;> rfl
theorem worst_ge(hL:LastOK c s)(hr:RaceN c r):rankM (withC c [r]) s≤(worstM c s).1:=by
  rw [rank_rivals hL hr]
  have he:=worst_ed c (rivM c s) (1,1,List.replicate c.sk.toNat 0)
  have hpb:∀ x∈rivM c s,afB c r s x=true→60<x.getD 1 0∨1≤r.getD (x.getD 0 0).toNat 0∧r.getD (x.getD 0 0).toNat 0≤x.getD 1 0:=fun x hx hb=>by
    obtain ⟨i,hi,hne,rfl,_⟩:=rivM_mem hx
    have hi':i<c.sk.toNat:=by omega
    unfold afB at hb
    change betS (withC c [r]) ((i:Int).toNat) s=true at hb
    rw [Int.toNat_natCast,bet_race hL hr hi' hne] at hb
    have:=riv_ge hL hi' hne (place_bd hr hi') (place_bd hr hL.hs) (place_ne hr hi' hL.hs hne) hb
    show 60<rivPl c s i∨1≤r.getD ((i:Int).toNat) 0∧r.getD ((i:Int).toNat) 0≤rivPl c s i
    rw [Int.toNat_natCast];exact this
  have h:=edf (D:=fun x:List Int=>x.getD 1 0) (q:=fun x=>r.getD (x.getD 0 0).toNat 0) (P:=afB c r s) (rivM c s) [] 1 1 (by simp) (by omega) (by rw [List.nil_append];exact rivM_pw c s) (by rw [List.nil_append];exact hpb) (by
    rw [List.nil_append]
    refine List.Pairwise.imp_of_mem (fun {x y} hx hy hne p1 p2 d1 d2 => ?_) (rivM_nd c s)
    have q1:=hpb x hx p1
    have q2:=hpb y hy p2
    obtain ⟨i,hi,_,rfl,_⟩:=rivM_mem hx
    obtain ⟨j,hj,_,rfl,_⟩:=rivM_mem hy
    have hij:(i:Int)≠(j:Int):=hne
    change 60<rivPl c s i∨1≤r.getD ((i:Int).toNat) 0∧_ at q1
    change rivPl c s i≤60 at d1
    intro e
    change r.getD ((i:Int).toNat) 0=r.getD ((j:Int).toNat) 0 at e
    rw [Int.toNat_natCast] at q1
    rw [Int.toNat_natCast,Int.toNat_natCast] at e
    rcases place_ne hr (o:=i) (s:=j) (by omega) (by omega) (by omega) with h | h | h <;> omega)
  rw [List.nil_append] at h
  have e1:(worstM c s).1=((rivM c s).foldl (edS fun x:List Int=>x.getD 1 0) (1,1)).1:=by
    have:=congrArg Prod.fst he
    exact this
  rw [e1]
  omega
end
end
section
open KL
section
variable {c:Cup} {s:Nat}
def RivX(c:Cup)(s:Nat)(x:List Int):Prop:=∃ i:Nat,i<c.sk.toNat∧i≠s∧x=rivT c s i
structure WInv (c:Cup) (s:Nat) (pre R:List (List Int)) (a n:Int) (g:List Int):Prop where
  len:g.length=c.sk.toNat
  bd:∀ x∈g,0≤x∧x<n
  n1:1≤n
  n2:n≤(pre.length:Int)+1
  ns:NSh g
  own:g.getD s 0=0
  rest:∀ x∈R,g.getD (x.getD 0 0).toNat 0=0
  done:∀ x∈pre,60<x.getD 1 0∧g.getD (x.getD 0 0).toNat 0=0∨x.getD 1 0≤60∧g.getD (x.getD 0 0).toNat 0≤x.getD 1 0
  cnt:((pre.countP fun x=>decide (60<x.getD 1 0) || decide (1≤g.getD (x.getD 0 0).toNat 0):Nat):Int)=a-1
theorem getD_set{l:List Int}{i j:Nat}{x:Int}(hi:i<l.length):(l.set i x).getD j 0=if i=j then x else l.getD j 0:=by
  rw [List.getD_eq_getElem?_getD,List.getElem?_set]
  by_cases e:i=j
  · subst e;rw [if_pos rfl,if_pos rfl,if_pos hi];rfl
  · rw [if_neg e,if_neg e,List.getD_eq_getElem?_getD]
theorem worst_inv(hL:LastOK c s):∀ (R pre:List (List Int)) (a n:Int) (g:List Int),WInv c s pre R a n g→(∀ x∈pre++R,RivX c s x)→(pre++R).Pairwise (fun x y=>x.getD 0 0≠y.getD 0 0) →
    WInv c s (pre++R) [] (R.foldl wStep (a,n,g)).1 (R.foldl wStep (a,n,g)).2.1 (R.foldl wStep (a,n,g)).2.2
  | [],pre,a,n,g,h,_,_=>by rw [List.append_nil];exact h
  | x::R,pre,a,n,g,h,hx,hd=>by
    obtain ⟨i,hi,hne,rfl⟩:=hx x (by simp)
    rw [List.append_cons] at hx hd ⊢
    rw [List.foldl_cons]
    have hi0:g.getD i 0=0:=by have:=h.rest (rivT c s i) (by simp);rwa [show ((rivT c s i).getD 0 0).toNat=i from Int.toNat_natCast i] at this
    have ei:((rivT c s i).getD 0 0).toNat=i:=Int.toNat_natCast i
    have eD:(rivT c s i).getD 1 0=rivPl c s i:=rfl
    have hil:i<g.length:=by rw [h.len];exact hi
    have cs:∀ g':List Int,((pre++[rivT c s i]).countP fun x=>decide (60<x.getD 1 0) || decide (1≤g'.getD (x.getD 0 0).toNat 0):Nat)=(pre.countP fun x=>decide (60<x.getD 1 0) || decide (1≤g'.getD (x.getD 0 0).toNat 0):Nat)+if 60<rivPl c s i∨1≤g'.getD i 0 then 1 else 0:=fun g'=>by
      rw [List.countP_append,List.countP_cons,List.countP_nil,Nat.zero_add]
      congr 1
      rw [ei,eD]
      by_cases e:60<rivPl c s i∨1≤g'.getD i 0
      · rw [if_pos e,if_pos (by rw [Bool.or_eq_true,decide_eq_true_eq,decide_eq_true_eq];exact e)]
      · rw [if_neg e,if_neg (by rw [Bool.or_eq_true,decide_eq_true_eq,decide_eq_true_eq];exact e)]
    have hn2:=h.n2
    have hcn:=h.cnt
    have hR:∀ x∈R,g.getD (x.getD 0 0).toNat 0=0:=fun x hx=>h.rest x (List.mem_cons_of_mem _ hx)
    unfold wStep
    rw [eD,show (rivT c s i).getD 0 0=(i:Int) from rfl,Int.toNat_natCast]
    dsimp only
    by_cases g1:60<rivPl c s i
    · rw [if_pos g1]
      refine worst_inv hL R _ (a+1) n g ⟨h.len,h.bd,h.n1,by rw [List.length_append];simp;omega,h.ns,h.own,hR,fun y hy => ?_,?_⟩ hx hd
      · rcases List.mem_append.1 hy with hy | hy
        · exact h.done y hy
        · rw [List.mem_singleton.1 hy,ei,eD];exact .inl ⟨g1,hi0⟩
      · rw [cs,if_pos (.inl g1)];omega
    · rw [if_neg g1]
      by_cases g2:n≤rivPl c s i
      · rw [if_pos g2]
        have n1:=h.n1
        have hot:∀ y∈pre,(y.getD 0 0).toNat≠i:=fun y hy e=>by
          obtain ⟨j,hj,_,rfl⟩:=hx y (List.mem_append_left _ (List.mem_append_left _ hy))
          have hp:=(List.pairwise_append.1 (List.pairwise_append.1 hd).1).2.2 _ hy (rivT c s i) (by simp)
          rw [show ((rivT c s j).getD 0 0).toNat=j from Int.toNat_natCast j] at e
          subst e
          exact hp rfl
        have hR2:∀ y∈R,(y.getD 0 0).toNat≠i:=fun y hy e=>by
          obtain ⟨j,hj,_,rfl⟩:=hx y (List.mem_append_right _ hy)
          have hp:=(List.pairwise_append.1 hd).2.2 (rivT c s i) (by simp) _ hy
          rw [show ((rivT c s j).getD 0 0).toNat=j from Int.toNat_natCast j] at e
          subst e
          exact hp rfl
        refine worst_inv hL R _ (a+1) (n+1) (g.set i n) ⟨by rw [List.length_set];exact h.len,fun y hy => ?_,by omega,by rw [List.length_append];simp;omega,fun p hp => ?_,?_,fun y hy => ?_,fun y hy => ?_,?_⟩ hx hd
        · rcases List.mem_or_eq_of_mem_set hy with hy | rfl
          · have:=h.bd y hy;omega
          · omega
        · rw [KL.count_setZ hil hi0 hp]
          by_cases e:n=p
          · subst e
            rw [if_pos rfl,List.count_eq_zero.2 fun hm=>by have:=h.bd n hm;omega]
            omega
          · rw [if_neg e];exact h.ns p hp
        · rw [getD_set hil,if_neg hne];exact h.own
        · rw [getD_set hil,if_neg (Ne.symm (hR2 y hy))];exact hR y hy
        · rcases List.mem_append.1 hy with hy | hy
          · rw [getD_set hil,if_neg (Ne.symm (hot y hy))];exact h.done y hy
          · rw [List.mem_singleton.1 hy,ei,eD,getD_set hil,if_pos rfl];exact .inr ⟨by omega,g2⟩
        · rw [cs,if_pos (.inr (by rw [getD_set hil,if_pos rfl];exact n1))]
          have:(pre.countP fun x=>decide (60<x.getD 1 0) || decide (1≤(g.set i n).getD (x.getD 0 0).toNat 0))=pre.countP fun x=>decide (60<x.getD 1 0) || decide (1≤g.getD (x.getD 0 0).toNat 0):=List.countP_congr fun y hy=>by
            rw [getD_set hil,if_neg (Ne.symm (hot y hy))]
          rw [this];omega
      · rw [if_neg g2]
        refine worst_inv hL R _ a n g ⟨h.len,h.bd,h.n1,by rw [List.length_append];simp;omega,h.ns,h.own,hR,fun y hy => ?_,?_⟩ hx hd
        · rcases List.mem_append.1 hy with hy | hy
          · exact h.done y hy
          · have:=h.n1
            rw [List.mem_singleton.1 hy,ei,eD,hi0]
            by_cases e:0≤rivPl c s i
            · exact .inr ⟨by omega,e⟩
            · have:=(rivPl_bd c s i).1;omega
        · rw [cs,if_neg (by rw [hi0];omega)];omega
theorem riv_x{x:List Int}(h:x∈rivM c s):RivX c s x:=by
  obtain ⟨i,hi,hne,rfl,_⟩:=rivM_mem h
  exact ⟨i,by omega,hne,rfl⟩
theorem worst_fin(hL:LastOK c s):WInv c s (rivM c s) [] (worstM c s).1 (worstM c s).2.1 (worstM c s).2.2:=by
  have hz:∀ j,(List.replicate c.sk.toNat (0:Int)).getD j 0=0:=fun j=>by
    rw [List.getD_eq_getElem?_getD,List.getElem?_replicate];split <;> rfl
  have h:=worst_inv hL (rivM c s) [] 1 1 (List.replicate c.sk.toNat 0) ⟨by simp,fun x hx=>by rw [List.eq_of_mem_replicate hx];omega,by omega,by simp,fun p hp=>by rw [List.count_eq_zero.2 fun h=>hp (List.eq_of_mem_replicate h)];omega,hz s,fun x _=>hz _,fun x hx=>by simp at hx,by simp⟩ (fun x hx=>by rw [List.nil_append] at hx;exact riv_x hx) (by rw [List.nil_append];exact rivM_nd c s)
  rw [List.nil_append] at h
  exact h
theorem ns_clash{r:List Int}(hN:NSh r)(hb:∀ x∈r,0≤x∧x≤60):KL.NoClash r:=fun p hp h0=>by
  have h1:=hN p h0
  have h2:=hb p hp
  exact ⟨by omega,fun q hq hpq=>by omega⟩
theorem worst_race(hL:LastOK c s):RaceN c (worstM c s).2.2:=by
  have h:=worst_fin hL
  have hn:=h.n2
  have hl:=rivM_len c s
  have s2:=hL.hv.sk2
  have hb:∀ x∈(worstM c s).2.2,0≤x∧x≤60:=fun x hx=>by have:=h.bd x hx;omega
  exact ⟨⟨h.len,hb,ns_clash h.ns hb⟩,h.ns⟩
theorem worst_eq(hL:LastOK c s):rankM (withC c [(worstM c s).2.2]) s=(worstM c s).1:=by
  have h:=worst_fin hL
  have hr:=worst_race hL
  rw [rank_rivals hL hr]
  have e:(rivM c s).countP (afB c (worstM c s).2.2 s)=(rivM c s).countP fun x=>decide (60<x.getD 1 0) || decide (1≤(worstM c s).2.2.getD (x.getD 0 0).toNat 0):=List.countP_congr fun x hx=>by
    obtain ⟨i,hi,hne,rfl⟩:=riv_x hx
    have hd:=h.done _ hx
    have e1:((rivT c s i).getD 0 0).toNat=i:=Int.toNat_natCast i
    have eD:(rivT c s i).getD 1 0=rivPl c s i:=rfl
    rw [e1,eD] at hd
    have hb:=place_bd hr hi
    unfold afB
    rw [e1,eD,bet_race hL hr hi hne,h.own,Bool.or_eq_true,decide_eq_true_eq,decide_eq_true_eq]
    rcases hd with ⟨h1,h2⟩ | ⟨h1,h2⟩
    · rw [h2]
      exact ⟨fun _ => .inl h1,fun _=>riv_free h1⟩
    · constructor
      · intro hbt
        right
        by_cases e0:(worstM c s).2.2.getD i 0=0
        · rw [e0,riv_not h1] at hbt;cases hbt
        · omega
      · rintro (hh | hh)
        · omega
        · exact riv_so h1 hh h2
  rw [e]
  have:=h.cnt
  omega
end
end
section
open KL
theorem oth_iff{s n x:Nat}:x∈KL.oth s n↔x<n∧x≠s:=by
  unfold KL.oth
  rw [List.mem_filter,List.mem_range,decide_eq_true_eq]
section
variable {c:Cup} {s:Nat}
theorem find_fold(c:Cup)(s:Nat)(pl:Int)(free:List Int):∀ (l:List Nat) (fo:Int),(0≤fo→l.foldl (findF c s pl free) fo=fo) ∧
    (fo<0→(l.foldl (findF c s pl free) fo<0∧∀ x∈l,¬ (free.getD x 0=0∧beatsM c x pl s 1=false))∨∃ x∈l,free.getD x 0=0∧beatsM c x pl s 1=false∧l.foldl (findF c s pl free) fo=(x:Int))
  | [],fo=>⟨fun _=>rfl,fun h => .inl ⟨h,fun x hx=>by simp at hx⟩⟩
  | x::l,fo=>by
    obtain ⟨i1,i2⟩:=find_fold c s pl free l (findF c s pl free fo x)
    refine ⟨fun h => ?_,fun h => ?_⟩
    · have e:findF c s pl free fo x=fo:=by unfold findF;rw [if_neg (by omega)]
      rw [List.foldl_cons,e]
      rw [e] at i1
      exact i1 h
    · by_cases g:free.getD x 0=0∧beatsM c x pl s 1=false
      · have e:findF c s pl free fo x=(x:Int):=by unfold findF;rw [if_pos h,if_pos g.1,if_neg (by rw [g.2];simp)]
        refine .inr ⟨x,by simp,g.1,g.2,?_⟩
        rw [List.foldl_cons,e]
        rw [e] at i1
        exact i1 (by omega)
      · have e:findF c s pl free fo x=fo:=by
          unfold findF
          rw [if_pos h]
          by_cases g1:free.getD x 0=0
          · rw [if_pos g1]
            cases g2:beatsM c x pl s 1 with
            | true=>rw [if_pos rfl]
            | false=>exact absurd ⟨g1,g2⟩ g
          · rw [if_neg g1]
        rw [List.foldl_cons,e]
        rw [e] at i2
        rcases i2 h with ⟨h1,h2⟩ | ⟨y,hy,h1⟩
        · refine .inl ⟨h1,fun y hy => ?_⟩
          rcases List.mem_cons.1 hy with rfl | hy
          · exact g
          · exact h2 y hy
        · exact .inr ⟨y,List.mem_cons_of_mem _ hy,h1⟩
theorem harm_cnt(c:Cup)(s:Nat)(p:Int):harmM c s p=((KL.oth s c.sk.toNat).countP fun x => !beatsM c x p s 1:Nat):=by
  unfold harmM
  have:∀ (l:List Nat) (n:Int),l.foldl (fun n x=>if beatsM c x p s 1 then n else n+1) n=n+(l.countP fun x => !beatsM c x p s 1:Nat):=by
    intro l
    induction l with
    | nil=>intro n;simp
    | cons x l ih =>
      intro n
      rw [List.foldl_cons,ih,List.countP_cons]
      cases beatsM c x p s 1 <;> simp <;> omega
  rw [this];omega
theorem map_getD(g:List Int):(List.range g.length).map (fun i=>g.getD i 0)=g:=by
  apply List.ext_getElem
  · simp
  · intro i h1 h2
    simp [List.getD_eq_getElem?_getD,h2]
theorem count_at(g:List Int)(P:Int→Bool):g.countP P=(List.range g.length).countP fun i=>P (g.getD i 0):=by
  conv=>lhs;rw [← map_getD g]
  rw [List.countP_map];rfl
theorem count_oth{n s:Nat}(hs:s<n)(P:Nat→Bool):(List.range n).countP P=(KL.oth s n).countP P+if P s=true then 1 else 0:=by
  unfold KL.oth
  rw [List.countP_filter]
  have h1:(List.range n).countP P=(List.range n).countP (fun i=>P i && decide (i≠s))+(List.range n).countP (fun i=>P i && decide (i=s)):=by
    induction List.range n with
    | nil=>rfl
    | cons x l ih =>
      rw [List.countP_cons,List.countP_cons,List.countP_cons,ih]
      by_cases e:x=s <;> cases P x <;> simp [e] <;> omega
  rw [h1]
  congr 1
  by_cases e:P s=true
  · rw [if_pos e]
    have:(List.range n).countP (fun i=>P i && decide (i=s))=(List.range n).count s:=List.countP_congr fun x _=>by
      by_cases g:x=s
      · subst g;simp [e]
      · simp [g]
    rw [this,List.count_range];simp [hs]
  · rw [if_neg e]
    refine List.countP_eq_zero.2 fun x _ h => ?_
    simp only [Bool.and_eq_true,decide_eq_true_eq] at h
    exact e (h.2 ▸ h.1)

structure FInv (c:Cup) (s:Nat) (pl:Int) (g:List Int):Prop where
  len:g.length=c.sk.toNat
  bd:∀ x∈g,0≤x∧x<pl
  ns:NSh g
  own:g.getD s 0=1
  cnt:((g.countP fun x=>decide (x≠0):Nat):Int)=pl-1
  ok:∀ o,o<c.sk.toNat→o≠s→g.getD o 0≠0→beatsM c o (g.getD o 0) s 1=false
theorem FInv.step{pl:Int}{g:List Int}(h:FInv c s pl g)(hp:1≤pl){x:Nat}(hx:x<c.sk.toNat)(hne:x≠s)(h0:g.getD x 0=0)(hb:beatsM c x pl s 1=false):FInv c s (pl+1) (g.set x pl):=by
  have hl:x<g.length:=by rw [h.len];exact hx
  refine ⟨by rw [List.length_set];exact h.len,fun y hy => ?_,fun p hp => ?_,?_,?_,fun o ho hos h1 => ?_⟩
  · rcases List.mem_or_eq_of_mem_set hy with hy | rfl
    · have:=h.bd y hy;omega
    · omega
  · rw [KL.count_setZ hl h0 hp]
    by_cases e:pl=p
    · subst e
      rw [if_pos rfl,List.count_eq_zero.2 fun hm=>by have:=h.bd pl hm;omega]
      omega
    · rw [if_neg e];exact h.ns p hp
  · rw [getD_set hl,if_neg hne];exact h.own
  · have hg0:g[x]=0:=by rw [List.getD_eq_getElem?_getD,List.getElem?_eq_getElem hl] at h0;exact h0
    have hc:=h.cnt
    rw [List.countP_set hl,hg0]
    have:0≤(g.countP fun x=>decide (x≠0)):=Nat.zero_le _
    rw [if_neg (by simp),if_pos (by simp;omega)]
    omega
  · rw [getD_set hl] at h1 ⊢
    by_cases e:x=o
    · subst e;rw [if_pos rfl];exact hb
    · rw [if_neg e] at h1 ⊢;exact h.ok o ho hos h1
theorem full_spec(hL:LastOK c s):∀ (n:Nat) (pl:Int) (g:List Int),FInv c s pl g→2≤pl→pl+n=c.sk+1→(∃ f,fullR c s n pl g=some f∧FInv c s (c.sk+1) f)∨(fullR c s n pl g=none∧∃ p:Int,2≤p∧p≤c.sk∧harmM c s p<p-1)
  | 0,pl,g,h,_,hk => .inl ⟨g,rfl,by rwa [show pl=c.sk+1 by omega] at h⟩
  | n+1,pl,g,h,h2,hk=>by
    have hf:=(find_fold c s pl g (KL.oth s c.sk.toNat) (-1)).2 (by omega)
    change (findM c s pl g<0∧_)∨∃ x∈_,_∧_∧findM c s pl g=_ at hf
    unfold fullR
    rcases hf with ⟨f1,f2⟩ | ⟨x,hx,f1,f2,f3⟩
    · rw [if_pos f1]
      refine .inr ⟨rfl,pl,h2,by omega,?_⟩
      rw [harm_cnt]
      have h3:(KL.oth s c.sk.toNat).countP (fun x => !beatsM c x pl s 1)≤(KL.oth s c.sk.toNat).countP (fun x=>decide (g.getD x 0≠0)):=List.countP_mono_left fun x hx hb=>by
        have:=f2 x hx
        rw [Bool.not_eq_true'] at hb
        rw [decide_eq_true_eq]
        exact fun e=>this ⟨e,hb⟩
      have h4:=count_oth hL.hs (fun i=>decide (g.getD i 0≠0))
      have h5:=count_at g (fun x=>decide (x≠0))
      rw [h.len] at h5
      rw [if_pos (by rw [h.own];rfl)] at h4
      have:=h.cnt
      omega
    · rw [if_neg (by rw [f3];omega),f3,Int.toNat_natCast]
      obtain ⟨x1,x2⟩:=oth_iff.1 hx
      exact full_spec hL n (pl+1) _ (h.step (by omega) x1 x2 f1 f2) (by omega) (by omega)
theorem full_start(hL:LastOK c s):FInv c s 2 ((List.replicate c.sk.toNat 0).set s 1):=by
  have hl:s<(List.replicate c.sk.toNat (0:Int)).length:=by simpa using hL.hs
  have hz:∀ j,(List.replicate c.sk.toNat (0:Int)).getD j 0=0:=fun j=>by
    rw [List.getD_eq_getElem?_getD,List.getElem?_replicate];split <;> rfl
  refine ⟨by simp,fun y hy => ?_,fun p hp => ?_,?_,?_,fun o ho hos h1 => ?_⟩
  · rcases List.mem_or_eq_of_mem_set hy with hy | rfl
    · rw [List.eq_of_mem_replicate hy];omega
    · omega
  · rw [KL.count_setZ hl (hz s) hp,List.count_eq_zero.2 fun h=>hp (List.eq_of_mem_replicate h)]
    split <;> omega
  · rw [getD_set hl,if_pos rfl]
  · rw [List.countP_set hl]
    simp
  · rw [getD_set hl,if_neg (Ne.symm hos)] at h1
    exact absurd (hz o) h1
theorem full_cases(hL:LastOK c s):(∃ f,fullM c s=some f∧FInv c s (c.sk+1) f)∨(fullM c s=none∧∃ p:Int,2≤p∧p≤c.sk∧harmM c s p<p-1):=by
  have s1:=hL.hv.sk1
  exact full_spec hL (c.sk.toNat-1) 2 _ (full_start hL) (by omega) (by omega)

structure Full (n:Nat) (g:List Int):Prop where
  len:g.length=n
  bd:∀ x∈g,1≤x∧x≤n
  nd:g.Nodup
theorem Full.raceN(hL:LastOK c s){g:List Int}(h:Full c.sk.toNat g):RaceN c g:=by
  have s2:=hL.hv.sk2
  have hN:NSh g:=fun p _=>List.nodup_iff_count.1 h.nd p
  have hb:∀ x∈g,0≤x∧x≤60:=fun x hx=>by have:=h.bd x hx;omega
  exact ⟨⟨h.len,hb,ns_clash hN hb⟩,hN⟩
theorem FInv.full(hL:LastOK c s){f:List Int}(h:FInv c s (c.sk+1) f):Full c.sk.toNat f:=by
  have s1:=hL.hv.sk1
  have hc:=h.cnt
  have hl:=h.len
  have h0:∀ x∈f,x≠0:=fun x hx=>by
    have h1:f.countP (fun x=>decide (x≠0))=f.length:=by omega
    exact of_decide_eq_true (List.countP_eq_length.1 h1 x hx)
  refine ⟨h.len,fun x hx=>by have:=h.bd x hx;have:=h0 x hx;omega,List.nodup_iff_count.2 fun x => ?_⟩
  by_cases hm:x∈f
  · exact h.ns x (h0 x hm)
  · rw [List.count_eq_zero.2 hm];omega
theorem full_harm(hL:LastOK c s){g:List Int}(h:Full c.sk.toNat g)(hb:∀ o,o<c.sk.toNat→o≠s→beatsM c o (g.getD o 0) s (g.getD s 0)=false){p:Int}(h2:2≤p)(hp:p≤c.sk):p-1≤harmM c s p:=by
  have s2:=hL.hv.sk2
  have hr:=h.raceN hL
  have hat:∀ x,x<c.sk.toNat→1≤g.getD x 0∧g.getD x 0≤c.sk.toNat:=fun x hx=>by
    rw [List.getD_eq_getElem?_getD,List.getElem?_eq_getElem (by rw [h.len];exact hx)]
    exact h.bd _ (List.getElem_mem _)
  rw [harm_cnt]
  have h3:(KL.oth s c.sk.toNat).countP (fun x=>decide (g.getD x 0≤p))≤(KL.oth s c.sk.toNat).countP (fun x => !beatsM c x p s 1):=List.countP_mono_left fun x hx hx2=>by
    obtain ⟨x1,x2⟩:=oth_iff.1 hx
    have hx2:=of_decide_eq_true hx2
    have a1:=hat x x1
    have a2:=hat s hL.hs
    cases e:beatsM c x p s 1 with
    | false=>rfl
    | true =>
      have n2:=place_ne hr x1 hL.hs x2
      have:=beats_mono hL x1 x2 (p':=g.getD x 0) (w':=g.getD s 0) ⟨by omega,by omega⟩ ⟨by omega,by omega⟩ ⟨by omega,by omega⟩ ⟨by omega,by omega⟩ (.inr (.inr (by omega))) n2 (.inr ⟨by omega,hx2⟩) (.inr ⟨by omega,a2.1⟩) e
      rw [hb x x1 x2] at this;cases this
  have h4:=count_oth hL.hs (fun i=>decide (g.getD i 0≤p))
  have h5:=count_at g (fun x=>decide (x≤p))
  rw [h.len] at h5
  have h6:p≤(g.countP fun x=>decide (x≤p):Nat):=by
    have h7:=nodup_bd (c.sk-p).toNat ((g.filter fun x => !decide (x≤p)).map fun x=>x-p) (List.pairwise_map.2 ((h.nd.filter _).imp fun hne=>by omega)) (fun x hx=>by
      obtain ⟨y,hy,rfl⟩:=List.mem_map.1 hx
      obtain ⟨y1,y2⟩:=List.mem_filter.1 hy
      have:=h.bd y y1
      have y2:¬ y≤p:=by simpa using y2
      omega)
    have h8:=List.length_eq_countP_add_countP (l:=g) (fun x=>decide (x≤p))
    rw [List.length_map,← List.countP_eq_length_filter] at h7
    have h9:g.countP (fun a=>decide ¬(decide (a≤p)=true))=g.countP fun x => !decide (x≤p):=List.countP_congr fun x _=>by simp
    rw [h9,h.len] at h8
    omega
  have:(if decide (g.getD s 0≤p)=true then 1 else 0:Nat)≤1:=by split <;> omega
  omega
theorem rank_full(hL:LastOK c s){g:List Int}(h:Full c.sk.toNat g):rankM (withC c [g]) s=1↔∀ o,o<c.sk.toNat→o≠s→beatsM c o (g.getD o 0) s (g.getD s 0)=false:=by
  have hr:=h.raceN hL
  rw [rank_one]
  constructor
  · intro h1 o ho hne
    rw [← bet_race hL hr ho hne]
    exact h1 o ho
  · intro h1 o ho
    by_cases hne:o=s
    · subst hne;exact betS_self _ _
    · rw [bet_race hL hr ho hne];exact h1 o ho hne
theorem full_first(hL:LastOK c s){f:List Int}(h:fullM c s=some f):Full c.sk.toNat f∧rankM (withC c [f]) s=1:=by
  rcases full_cases hL with ⟨f',e,hI⟩ | ⟨e,_⟩
  · rw [e] at h;cases h
    have hF:=hI.full hL
    refine ⟨hF,(rank_full hL hF).2 fun o ho hne => ?_⟩
    rw [hI.own]
    refine hI.ok o ho hne ?_
    have:=hF.bd (f.getD o 0) (by rw [List.getD_eq_getElem?_getD,List.getElem?_eq_getElem (by rw [hF.len];exact ho)];exact List.getElem_mem _)
    omega
  · rw [e] at h;cases h
theorem full_block(hL:LastOK c s){f:List Int}(h:fullM c s=some f){p:Int}(h2:2≤p)(hp:p≤c.sk):blkM c s p=false:=by
  obtain ⟨hF,h1⟩:=full_first hL h
  have:=full_harm hL hF ((rank_full hL hF).1 h1) h2 hp
  unfold blkM
  exact decide_eq_false (by omega)
theorem blockR_none{c:Cup}{s:Nat}:∀ (n:Nat) (p:Int),(∀ q,p≤q→q<p+n→blkM c s q=false)→blockR c s n p=none
  | 0,_,_=>rfl
  | n+1,p,h=>by
    unfold blockR
    rw [h p (by omega) (by omega),if_neg (by simp)]
    exact blockR_none n (p+1) fun q h1 h2=>h q (by omega) (by omega)
theorem blockR_some{c:Cup}{s:Nat}:∀ (n:Nat) (p:Int),(∃ q,p≤q∧q<p+n∧blkM c s q=true)→∃ q,blockR c s n p=some q∧p≤q∧q<p+n∧blkM c s q=true
  | 0,p,⟨q,h1,h2,_⟩=>by omega
  | n+1,p,⟨q,h1,h2,h3⟩=>by
    unfold blockR
    cases e:blkM c s p with
    | true=>exact ⟨p,if_pos rfl,by omega,by omega,e⟩
    | false =>
      have hne:q≠p:=fun h=>by subst h;rw [e] at h3;cases h3
      obtain ⟨q',a,b,d,f⟩:=blockR_some n (p+1) ⟨q,by omega,by omega,h3⟩
      exact ⟨q',by rw [if_neg (by simp)];exact a,by omega,by omega,f⟩
theorem block_cases(hL:LastOK c s):(∃ f,fullM c s=some f∧blockM c s=none)∨(fullM c s=none∧∃ q,blockM c s=some q∧2≤q∧q≤c.sk∧blkM c s q=true):=by
  have s1:=hL.hv.sk1
  rcases full_cases hL with ⟨f,e,_⟩ | ⟨e,p,h1,h2,h3⟩
  · exact .inl ⟨f,e,blockR_none _ _ fun q g1 g2=>full_block hL e g1 (by omega)⟩
  · obtain ⟨q,a,b,d,g⟩:=blockR_some (c:=c) (s:=s) (c.sk.toNat-1) 2 ⟨p,h1,by omega,decide_eq_true h3⟩
    exact .inr ⟨e,q,a,b,by omega,g⟩
theorem none_first(hL:LastOK c s)(h:fullM c s=none){g:List Int}(hg:Full c.sk.toNat g):rankM (withC c [g]) s≠1:=fun h1=>by
  rcases full_cases hL with ⟨f,e,_⟩ | ⟨_,p,g1,g2,g3⟩
  · rw [e] at h;cases h
  · have:=full_harm hL hg ((rank_full hL hg).1 h1) g1 g2
    omega
end
end
section
open KL
end
section
open KL
theorem Full.mem{n:Nat}{g:List Int}(h:Full n g){p:Int}(h1:1≤p)(h2:p≤n):p∈g:=by
  apply Classical.byContradiction
  intro hn
  have:=nodup_bd n (p::g) (List.nodup_cons.2 ⟨hn,h.nd⟩) (fun x hx=>by
    rcases List.mem_cons.1 hx with rfl | hx
    · exact ⟨h1,h2⟩
    · exact h.bd x hx)
  rw [List.length_cons,h.len] at this
  omega
def LastK(c:Cup)(k:Int):Prop:=KL.Valid c∧(0≤k∧k<c.sk)∧(c.done.length:Int)+1=c.ra
theorem lastK_e{c:Cup}{k:Int}(h:LastK c k):lastE c ((k.toNat:Nat):Int)=0:=by
  obtain ⟨hV,hk,hd⟩:=h
  rw [Int.toNat_of_nonneg hk.1]
  unfold lastE
  rw [if_neg (by rw [named_in hV hk.1 hk.2];simp),if_neg (by omega)]
theorem LastK.ok{c:Cup}{k:Int}(h:LastK c k):LastOK c k.toNat:=⟨h.1,by have:=h.2.2;omega,by have:=h.2.1;omega⟩
section
variable (c:Cup) (k:Int) {base:Nat}
theorem wor_i(h:LastK c k):FV Tryz.prog 55 [.p (cupP c),.p (intP k)] base (.tup [.p (intP (worstM c k.toNat).1),.p (intsP (worstM c k.toNat).2.2),.p (intP 0)]) []:=by
  have:=worst_ok c k.toNat (lastK_e h) (base:=base)
  rwa [Int.toNat_of_nonneg h.2.1.1] at this
theorem ful_s(f:List Int)(h:LastK c k)(e:fullM c k.toNat=some f):FV Tryz.prog 56 [.p (cupP c),.p (intP k)] base (.tup [.p (intsP f),.p (intP 0)]) []:=by
  have:=full_ok c k.toNat (lastK_e h) (base:=base)
  rwa [e,Int.toNat_of_nonneg h.2.1.1] at this
theorem ful_n(h:LastK c k)(e:fullM c k.toNat=none):FV Tryz.prog 56 [.p (cupP c),.p (intP k)] base (.tup [.p nilS,.p (intP 6)]) []:=by
  have:=full_ok c k.toNat (lastK_e h) (base:=base)
  rwa [e,Int.toNat_of_nonneg h.2.1.1] at this
theorem blo_s(q:Int)(h:LastK c k)(e:blockM c k.toNat=some q):FV Tryz.prog 57 [.p (cupP c),.p (intP k)] base (.tup [.p (intP q),.p (intP 0)]) []:=by
  have:=block_ok c k.toNat (lastK_e h) (base:=base)
  rwa [e,Int.toNat_of_nonneg h.2.1.1] at this
theorem blo_n(h:LastK c k)(e:blockM c k.toNat=none):FV Tryz.prog 57 [.p (cupP c),.p (intP k)] base (.tup [.p (intP 0),.p (intP 6)]) []:=by
  have:=block_ok c k.toNat (lastK_e h) (base:=base)
  rwa [e,Int.toNat_of_nonneg h.2.1.1] at this
theorem bls_i(p:Int)(h:LastK c k)(hp:2≤p∧p≤c.sk):FV Tryz.prog 58 [.p (cupP c),.p (intP k),.p (intP p)] base (.tup [.p (blP (blkM c k.toNat p)),.p (intP 0)]) []:=by
  have:=blocks_ok c k.toNat p (lastK_e h) (base:=base)
  rwa [if_pos (by unfold within;simp;omega),Int.toNat_of_nonneg h.2.1.1] at this
end
end
section
open KL
def extB(full:Bool)(r:List Int)(p:Nat):Bool:=if p=0 then !full else decide (r.count (p:Int)=0)
def extL(full:Bool)(r:List Int)(n:Nat):List (List Int):=((List.range n).filter (extB full r)).map fun p:Nat=>r++[(p:Int)]
def racesM(most:Nat)(full:Bool):Nat→List (List Int)
  | 0=>[[]]
  | n+1=>(racesM most full n).flatMap fun r=>extL full r (most+1)
theorem extL_succ(full:Bool)(r:List Int)(n:Nat):extL full r (n+1)=extL full r n++(if extB full r n=true then [r++[(n:Int)]] else []):=by
  unfold extL
  rw [List.range_succ,List.filter_append,List.map_append]
  congr 1
  by_cases h:extB full r n=true <;> simp [h]
theorem extL_len(full:Bool)(r:List Int)(n:Nat):(extL full r n).length≤n:=by
  unfold extL
  rw [List.length_map]
  exact Nat.le_trans (List.length_filter_le _ _) (by simp)
theorem flat_le{f:List Int→List (List Int)}{k:Nat}(h:∀ x,(f x).length≤k):∀ l:List (List Int),(l.flatMap f).length≤l.length*k
  | []=>by simp
  | x::l=>by
    have:=flat_le h l
    have:=h x
    rw [List.flatMap_cons,List.length_append,List.length_cons,Nat.succ_mul]
    omega
theorem races_len(most:Nat)(full:Bool):∀ n,(racesM most full n).length≤(most+1) ^ n
  | 0=>by simp [racesM]
  | n+1=>by
    refine Nat.le_trans (flat_le (fun x=>extL_len full x (most+1)) _) ?_
    rw [Nat.pow_succ]
    exact Nat.mul_le_mul_right _ (races_len most full n)
theorem NSh.app{r:List Int}{p:Int}:NSh (r++[p])↔NSh r∧(p=0∨r.count p=0):=by
  constructor
  · intro h
    refine ⟨fun q hq => ?_,?_⟩
    · have:=h q hq
      rw [List.count_append] at this
      omega
    · by_cases e:p=0
      · exact .inl e
      · have:=h p e
        rw [List.count_append,List.count_singleton_self] at this
        exact .inr (by omega)
  · rintro ⟨h1,h2⟩ q hq
    rw [List.count_append]
    by_cases e:p=q
    · subst e
      rw [List.count_singleton_self]
      have:=h2.resolve_left hq
      omega
    · rw [List.count_cons_of_ne (fun q=>e q),List.count_nil]
      have:=h1 q hq
      omega
theorem races_mem{most:Nat}{full:Bool}:∀ {n:Nat} {r:List Int},r∈racesM most full n↔r.length=n∧(∀ x∈r,0≤x∧x≤most∧(full=true→1≤x))∧NSh r
  | 0,r=>by
    unfold racesM
    rw [List.mem_singleton]
    constructor
    · rintro rfl
      exact ⟨rfl,by simp,fun p _=>by simp⟩
    · intro h
      exact List.length_eq_zero_iff.1 h.1
  | n+1,r=>by
    unfold racesM
    rw [List.mem_flatMap]
    constructor
    · rintro ⟨r0,h0,h⟩
      obtain ⟨g1,g2,g3⟩:=races_mem.1 h0
      unfold extL at h
      obtain ⟨p,hp,rfl⟩:=List.mem_map.1 h
      obtain ⟨p1,p2⟩:=List.mem_filter.1 hp
      have p1:=List.mem_range.1 p1
      unfold extB at p2
      refine ⟨by simp [g1],fun x hx => ?_,NSh.app.2 ⟨g3,?_⟩⟩
      · rcases List.mem_append.1 hx with hx | hx
        · exact g2 x hx
        · rw [List.mem_singleton] at hx
          subst hx
          refine ⟨by omega,by omega,fun hf => ?_⟩
          by_cases e:p=0
          · rw [if_pos e,hf] at p2;cases p2
          · omega
      · by_cases e:p=0
        · exact .inl (by omega)
        · rw [if_neg e] at p2
          exact .inr (of_decide_eq_true p2)
    · rintro ⟨g1,g2,g3⟩
      have hn:n<r.length:=by omega
      have er:r=r.take n++[r[n]]:=by
        have h:=List.take_add_one (l:=r) (i:=n)
        rw [List.getElem?_eq_getElem hn,List.take_of_length_le (by omega)] at h
        exact h
      have hx:=g2 r[n] (List.getElem_mem hn)
      rw [er] at g3
      obtain ⟨g4,g5⟩:=NSh.app.1 g3
      refine ⟨r.take n,races_mem.2 ⟨by simp;omega,fun x hx=>g2 x (List.mem_of_mem_take hx),g4⟩,?_⟩
      unfold extL
      refine List.mem_map.2 ⟨(r[n]).toNat,List.mem_filter.2 ⟨List.mem_range.2 (by omega),?_⟩,?_⟩
      · unfold extB
        by_cases e:(r[n]).toNat=0
        · rw [if_pos e]
          cases full with
          | false=>rfl
          | true=>have:=hx.2.2 rfl;omega
        · rw [if_neg e,Int.toNat_of_nonneg hx.1]
          exact decide_eq_true (g5.resolve_left (by omega))
      · rw [Int.toNat_of_nonneg hx.1];exact er.symm
theorem races_raceN{c:Cup}(hs:0≤c.sk∧c.sk≤60){full:Bool}{r:List Int}(h:r∈racesM c.sk.toNat full c.sk.toNat):RaceN c r:=by
  obtain ⟨g1,g2,g3⟩:=races_mem.1 h
  have hb:∀ x∈r,0≤x∧x≤60:=fun x hx=>by have:=g2 x hx;omega
  exact ⟨⟨g1,hb,ns_clash g3 hb⟩,g3⟩
theorem races_full{n:Nat}{r:List Int}:r∈racesM n true n↔Full n r:=by
  rw [races_mem]
  constructor
  · rintro ⟨g1,g2,g3⟩
    refine ⟨g1,fun x hx=>⟨(g2 x hx).2.2 rfl,(g2 x hx).2.1⟩,List.nodup_iff_count.2 fun a => ?_⟩
    by_cases e:a=0
    · subst e
      rw [List.count_eq_zero.2 fun h=>by have:=(g2 0 h).2.2 rfl;omega]
      omega
    · exact g3 a e
  · intro h
    refine ⟨h.len,fun x hx => ?_,fun p _=>List.nodup_iff_count.1 h.nd p⟩
    have:=h.bd x hx
    exact ⟨by omega,by omega,fun _=>by omega⟩
end
section
open KL
theorem furN_one{c:Cup}{s:Int}(h:LastK c s){r:List Int}(hr:RaceN c r):FurN c [r] :=
  ⟨⟨by have:=h.2.2;simp;omega,hr.valid h.ok⟩,fun x hx=>by rw [List.mem_singleton] at hx;rw [hx];exact hr.ns⟩
end
section
open KL Go.RowKit Go.Lib Go.Sort Go.Shelf
noncomputable abbrev zU12c0:Code:=sub (cd Tryz.f132) [1,0,1,0,0,1,0,0,1,0,0]
noncomputable abbrev zU12c1:Code:=sub (cd Tryz.f132) [1,0,1,0,0]
def pB(r:List Int):Bool := !(r.any fun p=>decide (0<p) && decide (1<r.count p))
theorem pB_iff{r:List Int}(h0:∀ x∈r,0≤x):pB r=true↔NSh r:=by
  unfold pB NSh
  rw [Bool.not_eq_true',List.any_eq_false]
  constructor
  · intro h p hp
    by_cases hm:p∈r
    · have h1:=h p hm
      have h2:=h0 p hm
      simp only [Bool.and_eq_true,decide_eq_true_eq,not_and] at h1
      have:=h1 (by omega)
      omega
    · rw [List.count_eq_zero.2 hm];omega
  · intro h p hm
    simp only [Bool.and_eq_true,decide_eq_true_eq,not_and]
    intro h1
    have:=h p (by omega)
    omega
def rpl_S0(l:List (List Int))(i:Nat):St:=⟨fr 43 [(0,(.p (rowsP l))),(3,(.p (intP (i:Int))))],[]⟩
theorem rpl_p0{l:List (List Int)}{i'0:Nat}(hl0:LoopOK Tryz.prog 0 zU12c1 (rpl_S0 l 0) (.exit 0) (rpl_S0 l i'0)){base:Nat}:FV Tryz.prog 132 [(.p (rowsP l))] base (.p (blP true)) []:=by
  exact FV.fin Tryz.func132 rfl (o:=[.k 6 ⟨(rng [(1,2),(4,39)]),[],[],[]⟩ (.exit 0) (rpl_S0 l i'0)]) (l:=[_]) (by kernel_rfl) (gc hl0.code gn)
theorem rpl_p1{l:List (List Int)}{i'0:Nat}(hl0:LoopOK Tryz.prog 0 zU12c1 (rpl_S0 l 0) .ret (setS (rpl_S0 l i'0) [(2,(.kb false))])){base:Nat}:FV Tryz.prog 132 [(.p (rowsP l))] base (.p (blP false)) []:=by
  exact FV.fin Tryz.func132 rfl (o:=[.k 6 ⟨(rng [(1,2),(4,39)]),[],[],[]⟩ .ret (setS (rpl_S0 l i'0) [(2,(.kb false))])]) (l:=[_]) (by kernel_rfl) (gc hl0.code gn)
def rpl_S1(l:List (List Int))(i:Nat)(s:Nat):St:=⟨fr 43 [(0,(.p (rowsP l))),(3,(.p (intP (i:Int)))),(4,(.p (intP (s:Int)))),(5,(.p (intP (i:Int)))),(6,(.p (rowsP l))),(7,(.p (intP (l.length:Int)))),(8,(.p (blP (decide ((i:Int)<(l.length:Int))))))],[]⟩
theorem rpl_L0_p0{l:List (List Int)}{i s'100 i':Nat}(h0:(i:Int)<(l.length:Int))(hl1:LoopOK Tryz.prog 0 zU12c0 (rpl_S1 l i 0) (.exit 2) (rpl_S1 l i s'100))(h2:inR (((i+1):Nat):Int))(ei':i'=(i+1)):CodeOK Tryz.prog 0 zU12c1 (rpl_S0 l i) .normal (rpl_S0 l i'):=by
  subst ei'
  exact CodeOK.fin (g:=⟨(rng [(1,2),(4,39)]),[],[],[]⟩) (o:=[bT,.k 5 ⟨(rng [(1,2),(11,32)]),[],[],[]⟩ (.exit 2) (rpl_S1 l i s'100)]) (l:=[_,_,_]) (by kernel_rfl) (gc h2 (gc hl1.code (gc (q_lt h0) gn)))
theorem rpl_L0_p1{l:List (List Int)}{i s'100:Nat}(h0:(i:Int)<(l.length:Int))(hl1:LoopOK Tryz.prog 0 zU12c0 (rpl_S1 l i 0) .ret (setS (rpl_S1 l i s'100) [(2,(.kb false))])):CodeOK Tryz.prog 0 zU12c1 (rpl_S0 l i) .ret (setS (rpl_S0 l i) [(2,(.kb false))]):=by
  exact CodeOK.fin (g:=⟨(rng [(1,1),(4,39)]),[],[],[]⟩) (o:=[bT,.k 5 ⟨(rng [(1,2),(11,32)]),[],[],[]⟩ .ret (setS (rpl_S1 l i s'100) [(2,(.kb false))])]) (l:=[_,_]) (by kernel_rfl) (gc hl1.code (gc (q_lt h0) gn))
theorem rpl_L0_p2{l:List (List Int)}{i:Nat}(h0:(l.length:Int)≤(i:Int)):CodeOK Tryz.prog 0 zU12c1 (rpl_S0 l i) (.exit 0) (rpl_S0 l i):=by
  exact CodeOK.fin (g:=⟨(rng [(1,2),(4,39)]),[],[],[]⟩) (o:=[bF]) (l:=[_]) (by kernel_rfl) (gc (q_ltF h0) gn)
theorem rpl_L1_p0{l:List (List Int)}{i s:Nat}{x200:List Int}{x201:Int}(h0:l[i]? = some x200)(h1:(s:Int)<(x200.length:Int))(h2:x200[s]? = some x201)(h3:(0:Int)<x201)(h4:x200.length≤1000)(h5:(1:Int)<(((x200.count x201):Nat):Int)):CodeOK Tryz.prog 0 zU12c0 (rpl_S1 l i s) .ret (setS (rpl_S1 l i s) [(2,(.kb false))]):=by
  exact CodeOK.fin (g:=⟨(rng [(1,1),(11,32)]),[],[],[]⟩) (o:=[.x (intsP x200),bT,.x (intsP x200),.x (intP x201),bT,bT,bT,bT,.x (intsP x200),bT,bT,bT,bT,.x (intsP x200),bT,bT,bT,.x (intP x201),bT,.c (.p (intP (((x200.count x201):Nat):Int))) [],bT,bT,bT]) (l:=[_,_,_,_,_,_,_,_,_,_,_,_,_,_,_,_,_,_,_,_,_,_,_,_,_,_,_,_,_]) (by kernel_rfl) (gc (q_lt h5) (gc (q_lt h3) (gc (q_lt h3) (gc (fk 0 (shr_ok x200 x201 h4) rfl) (gc (q_lt h3) (gc (atm intP h2) (gc (q_lt h3) (gc (ixn intP h2) (gc (q_lt h3) (gc (q_lt h3) (gc (atm intsP h0) (gc (q_lt h3) (gc (ixn intsP h0) (gc (q_lt h3) (gc (q_lt h3) (gc (q_lt h3) (gc (atm intsP h0) (gc (q_lt h3) (gc (ixn intsP h0) (gc (q_lt h3) (gc (q_lt h3) (gc (q_lt h3) (gc (atm intP h2) (gc (ixn intP h2) (gc (atm intsP h0) (gc (ixn intsP h0) (gc (q_lt h1) (gc (atm intsP h0) (gc (ixn intsP h0) gn)))))))))))))))))))))))))))))
theorem rpl_L1_p1{l:List (List Int)}{i s:Nat}{x200:List Int}{x201:Int}{s':Nat}(h0:l[i]? = some x200)(h1:(s:Int)<(x200.length:Int))(h2:x200[s]? = some x201)(h3:(0:Int)<x201)(h4:x200.length≤1000)(h5:(((x200.count x201):Nat):Int)≤(1:Int))(h6:inR (((s+1):Nat):Int))(es':s'=(s+1)):CodeOK Tryz.prog 0 zU12c0 (rpl_S1 l i s) .normal (rpl_S1 l i s'):=by
  subst es'
  exact CodeOK.fin (g:=⟨(rng [(1,2),(11,32)]),[],[],[]⟩) (o:=[.x (intsP x200),bT,.x (intsP x200),.x (intP x201),bT,bT,bT,bT,.x (intsP x200),bT,bT,bT,bT,.x (intsP x200),bT,bT,bT,.x (intP x201),bT,.c (.p (intP (((x200.count x201):Nat):Int))) [],bT,bT,bF]) (l:=[_,_,_,_,_,_,_,_,_,_,_,_,_,_,_,_,_,_,_,_,_,_,_,_,_,_,_,_,_,_]) (by kernel_rfl) (gc h6 (gc (q_ltF h5) (gc (q_lt h3) (gc (q_lt h3) (gc (fk 0 (shr_ok x200 x201 h4) rfl) (gc (q_lt h3) (gc (atm intP h2) (gc (q_lt h3) (gc (ixn intP h2) (gc (q_lt h3) (gc (q_lt h3) (gc (atm intsP h0) (gc (q_lt h3) (gc (ixn intsP h0) (gc (q_lt h3) (gc (q_lt h3) (gc (q_lt h3) (gc (atm intsP h0) (gc (q_lt h3) (gc (ixn intsP h0) (gc (q_lt h3) (gc (q_lt h3) (gc (q_lt h3) (gc (atm intP h2) (gc (ixn intP h2) (gc (atm intsP h0) (gc (ixn intsP h0) (gc (q_lt h1) (gc (atm intsP h0) (gc (ixn intsP h0) gn))))))))))))))))))))))))))))))
theorem rpl_L1_p2{l:List (List Int)}{i s:Nat}{x200:List Int}{x201:Int}{s':Nat}(h0:l[i]? = some x200)(h1:(s:Int)<(x200.length:Int))(h2:x200[s]? = some x201)(h3:x201≤(0:Int))(h4:inR (((s+1):Nat):Int))(es':s'=(s+1)):CodeOK Tryz.prog 0 zU12c0 (rpl_S1 l i s) .normal (rpl_S1 l i s'):=by
  subst es'
  exact CodeOK.fin (g:=⟨(rng [(1,2),(11,32)]),[],[],[]⟩) (o:=[.x (intsP x200),bT,.x (intsP x200),.x (intP x201),bF,bF,bF,bF,bF,bF,bF,bF,bF,bF,bF,bF,bF,bF]) (l:=[_,_,_,_,_,_,_,_,_,_,_,_,_,_,_,_,_,_,_,_,_,_]) (by kernel_rfl) (gc h4 (gc (q_ltF h3) (gc (q_ltF h3) (gc (q_ltF h3) (gc (q_ltF h3) (gc (q_ltF h3) (gc (q_ltF h3) (gc (q_ltF h3) (gc (q_ltF h3) (gc (q_ltF h3) (gc (q_ltF h3) (gc (q_ltF h3) (gc (q_ltF h3) (gc (q_ltF h3) (gc (q_ltF h3) (gc (atm intP h2) (gc (ixn intP h2) (gc (atm intsP h0) (gc (ixn intsP h0) (gc (q_lt h1) (gc (atm intsP h0) (gc (ixn intsP h0) gn))))))))))))))))))))))
theorem rpl_L1_p3{l:List (List Int)}{i s:Nat}{x200:List Int}(h0:l[i]? = some x200)(h1:(x200.length:Int)≤(s:Int)):CodeOK Tryz.prog 0 zU12c0 (rpl_S1 l i s) (.exit 2) (rpl_S1 l i s):=by
  exact CodeOK.fin (g:=⟨(rng [(1,2),(11,32)]),[],[],[]⟩) (o:=[.x (intsP x200),bF]) (l:=[_,_,_]) (by kernel_rfl) (gc (q_ltF h1) (gc (atm intsP h0) (gc (ixn intsP h0) gn)))
theorem rpl_in(l:List (List Int))(i:Nat)(x:List Int)(hx:l[i]? = some x)(hl:x.length≤1000):(pB x=false∧∃ s,LoopOK Tryz.prog 0 zU12c0 (rpl_S1 l i 0) .ret (setS (rpl_S1 l i s) [(2,.kb false)]))∨(pB x=true∧∃ s,LoopOK Tryz.prog 0 zU12c0 (rpl_S1 l i 0) (.exit 2) (rpl_S1 l i s)):=by
  unfold pB
  rcases LoopOK.find (P:=Tryz.prog) (k:=0) (b:=zU12c0) (fun s=>rpl_S1 l i s) (fun s _=>setS (rpl_S1 l i s) [(2,.kb false)]) (rpl_S1 l i x.length) .ret (.exit 2) (by simp) (by simp) (fun p=>decide (0<p) && decide (1<x.count p)) x
    (fun s p hp hq=>by
      have hs:=lt_of_at hp
      by_cases e:0<p
      · have:¬ 1<x.count p:=by simpa [e] using hq
        exact rpl_L1_p1 hx (by omega) hp e hl (by omega) (inR_nat (by omega)) rfl
      · exact rpl_L1_p2 hx (by omega) hp (by omega) (inR_nat (by omega)) rfl)
    (fun s p hp hq=>by
      have hs:=lt_of_at hp
      simp only [Bool.and_eq_true,decide_eq_true_eq] at hq
      exact rpl_L1_p0 hx (by omega) hp hq.1 hl (by omega))
    (rpl_L1_p3 hx (by omega)) with ⟨j,y,g1,g2,g3,g4⟩ | ⟨_,g1,g2⟩
  · exact .inl ⟨by rw [List.any_eq_true.2 ⟨y,List.mem_of_getElem? g1,g3⟩];rfl,_,g4⟩
  · exact .inr ⟨by rw [g1];rfl,_,g2⟩
theorem rpl_ok(l:List (List Int))(h1:l.length≤1000)(h2:∀ r∈l,r.length≤1000){base:Nat}:FV Tryz.prog 132 [.p (rowsP l)] base (.p (blP (l.all pB))) []:=by
  rw [List.all_eq_not_any_not]
  rcases LoopOK.find (P:=Tryz.prog) (k:=0) (b:=zU12c1) (fun i=>rpl_S0 l i) (fun i _=>setS (rpl_S0 l i) [(2,.kb false)]) (rpl_S0 l l.length) .ret (.exit 0) (by simp) (by simp) (fun r => !pB r) l
    (fun i x hx hp=>by
      have hi:=lt_of_at hx
      rcases rpl_in l i x hx (h2 x (List.mem_of_getElem? hx)) with ⟨d1,s,d2⟩ | ⟨d1,s,d2⟩
      · rw [d1] at hp;cases hp
      · exact rpl_L0_p0 (by omega) d2 (inR_nat (by omega)) rfl)
    (fun i x hx hp=>by
      have hi:=lt_of_at hx
      rcases rpl_in l i x hx (h2 x (List.mem_of_getElem? hx)) with ⟨d1,s,d2⟩ | ⟨d1,s,d2⟩
      · exact rpl_L0_p1 (by omega) d2
      · rw [d1] at hp;cases hp)
    (rpl_L0_p2 (by omega)) with ⟨i,x,g1,g2,g3,g4⟩ | ⟨_,g1,g2⟩
  · rw [List.any_eq_true.2 ⟨x,List.mem_of_getElem? g1,g3⟩];exact rpl_p1 g4
  · rw [g1];exact rpl_p0 g2
theorem rsh_p5{c:Cup}{k:Int}{f:List (List Int)}{n0:Cup}{e1:Int}{r0:Bool}(h0:KL.Small c)(h1:(checkP c)=(0:Int))(h2:inR (c.sk-(1:Int)))(h3:(outB k (0:Int) (c.sk-(1:Int)))=false)(h4:inR (c.ra-(c.done.length:Int)))(h5:(f.length:Int)=(c.ra-(c.done.length:Int)))(h6:∀ nb:Nat,FC Tryz.prog 45 [(.p (cupP c)),(.p (rowsP f))] [] nb (.tup [(.p (cupP n0)),(.p (intP e1))]) [])(h7:e1=(0:Int))(h8:f.length≤1000)(h9:∀ r∈f,r.length≤1000)(h10:(f.all pB)=true)(h11:KL.Valid n0)(h12:0≤k∧k<n0.sk)(er0:r0=((rankM n0 k.toNat) == (1:Int))){base:Nat}:FV Tryz.prog 60 [(.p (cupP c)),(.p (intP k)),(.p (rowsP f))] base (.tup [(.p (blP r0)),(.p (intP 0))]) []:=by
  subst er0
  exact FV.fin Tryz.func60 rfl (o:=[.c (.p (intP (checkP c))) [],bF,.c (.p (blP (outB k (0:Int) (c.sk-(1:Int))))) [],bF,bF,.c (.tup [(.p (cupP n0)),(.p (intP e1))]) [],bF,.c (.p (blP (f.all pB))) [],bF,.c (.p (intP (rankM n0 k.toNat))) []]) (l:=[_,_,_,_,_,_,_,_,_,_,_,_]) (by kernel_rfl) (gc (fk 2 (rrk_ok n0 k h11 h12) rfl) (gc (q_notF h10) (gc (fk 2 (rpl_ok f h8 h9) rfl) (gc (q_neF h7) (gc (h6 1) (gc (q_neF h5) (gc h4 (gc h3 (gc (fk 1 (outs_ok k (0:Int) (c.sk-(1:Int))) rfl) (gc h2 (gc (q_neF h1) (gc (fk 1 (chk_ok c h0) rfl) gn))))))))))))
theorem rsh_fur(c:Cup)(s:Nat)(f:List (List Int))(hV:KL.Valid c)(hs:(s:Int)<c.sk)(hF:FurN c f){base:Nat}:FV Tryz.prog 60 [.p (cupP c),.p (intP (s:Int)),.p (rowsP f)] base (.tup [.p (blP (rankM (withC c f) s == 1)),.p (intP 0)]) []:=by
  have s1:=hV.sk1
  have s2:=hV.sk2
  have d1:=hV.dn
  have r2:=hV.ra2
  have hl:=hF.fur.len
  have fr1:∀ r∈f,r.length≤1000:=fun r hr=>hF.fur.ok.small.rows r (List.mem_append_right _ hr)
  exact rsh_p5 hV.small ((KL.valid_iff c).2 hV) (by unfold inR;omega) (by simp [outB];omega) (by unfold inR;omega) hl (fun nb=>(raf_ok c f hV hF.fur.ok).fc rfl) rfl (by omega) fr1 (List.all_eq_true.2 fun r hr=>(pB_iff fun x hx=>(hF.fur.ok.rows r (List.mem_append_right _ hr) x hx).1).2 (hF.ns r hr)) hF.fur.ok ⟨by omega,hs⟩ rfl
end
section
open KL
noncomputable abbrev zU24c0:Code:=sub (cd Tryz.f131) [1,1,0,1,0,0,1,0,0,1,0,1,0,0,1,0,0,1,0,0]
noncomputable abbrev zU24c1:Code:=sub (cd Tryz.f63) [1,1,0,1,0,0]
noncomputable abbrev zU24c2:Code:=sub (cd Tryz.f131) [1,1,0,1,0,0,1,0,0,1,0,1,0,0]
noncomputable abbrev zU24c3:Code:=sub (cd Tryz.f62) [1,1,0,1,0,0]
noncomputable abbrev zU24c4:Code:=sub (cd Tryz.f131) [1,1,0,1,0,0]
noncomputable abbrev zU24c5:Code:=sub (cd Tryz.f59) [1,1,1,0,1,0,0]
noncomputable abbrev zU24c6:Code:=sub (cd Tryz.f64) [1,0,1,0,0]
theorem wek_p0{c:Cup}{k r0:Int}(h0:KL.Small c)(h1:(lastE c k)≠(0:Int))(er0:r0=(lastE c k)){base:Nat}:FV Tryz.prog 55 [(.p (cupP c)),(.p (intP k))] base (.tup [(.p (intP 0)),(.p nilS),(.p (intP r0))]) []:=by
  subst er0
  exact FV.fin Tryz.func55 rfl (o:=[.c (.tup [(.p (cupP c)),(.p (intP (lastE c k)))]) [],bT]) (l:=[_,_]) (by kernel_rfl) (gc (q_neT h1) (gc (fk 1 (last_ok c h0 k) rfl) gn))
theorem fek_p0{c:Cup}{k r0:Int}(h0:KL.Small c)(h1:(lastE c k)≠(0:Int))(er0:r0=(lastE c k)){base:Nat}:FV Tryz.prog 56 [(.p (cupP c)),(.p (intP k))] base (.tup [(.p nilS),(.p (intP r0))]) []:=by
  subst er0
  exact FV.fin Tryz.func56 rfl (o:=[.c (.tup [(.p (cupP c)),(.p (intP (lastE c k)))]) [],bT]) (l:=[_,_]) (by kernel_rfl) (gc (q_neT h1) (gc (fk 2 (last_ok c h0 k) rfl) gn))
theorem bek_p0{c:Cup}{k r0:Int}(h0:KL.Small c)(h1:(lastE c k)≠(0:Int))(er0:r0=(lastE c k)){base:Nat}:FV Tryz.prog 57 [(.p (cupP c)),(.p (intP k))] base (.tup [(.p (intP 0)),(.p (intP r0))]) []:=by
  subst er0
  exact FV.fin Tryz.func57 rfl (o:=[.c (.tup [(.p (cupP c)),(.p (intP (lastE c k)))]) [],bT]) (l:=[_,_]) (by kernel_rfl) (gc (q_neT h1) (gc (fk 1 (last_ok c h0 k) rfl) gn))
theorem sek_p0{c:Cup}{k p r0:Int}(h0:KL.Small c)(h1:(lastE c k)≠(0:Int))(er0:r0=(lastE c k)){base:Nat}:FV Tryz.prog 58 [(.p (cupP c)),(.p (intP k)),(.p (intP p))] base (.tup [(.p (blP false)),(.p (intP r0))]) []:=by
  subst er0
  exact FV.fin Tryz.func58 rfl (o:=[.c (.tup [(.p (cupP c)),(.p (intP (lastE c k)))]) [],bT]) (l:=[_,_]) (by kernel_rfl) (gc (q_neT h1) (gc (fk 1 (last_ok c h0 k) rfl) gn))
theorem rla_p0{c:Cup}{k r0:Int}(h0:KL.Small c)(h1:(checkP c)≠(0:Int))(er0:r0=(checkP c)){base:Nat}:FV Tryz.prog 54 [(.p (cupP c)),(.p (intP k))] base (.p (intP r0)) []:=by
  subst er0
  exact FV.fin Tryz.func54 rfl (o:=[.c (.p (intP (checkP c))) [],bT]) (l:=[_,_]) (by kernel_rfl) (gc (q_neT h1) (gc (fk 1 (chk_ok c h0) rfl) gn))
theorem rla_p1{c:Cup}{k:Int}(h0:KL.Small c)(h1:(checkP c)=(0:Int))(h2:inR (c.sk-(1:Int)))(h3:(outB k (0:Int) (c.sk-(1:Int)))=true){base:Nat}:FV Tryz.prog 54 [(.p (cupP c)),(.p (intP k))] base (.p (intP 1)) []:=by
  exact FV.fin Tryz.func54 rfl (o:=[.c (.p (intP (checkP c))) [],bF,.c (.p (blP (outB k (0:Int) (c.sk-(1:Int))))) [],bT]) (l:=[_,_,_,_,_]) (by kernel_rfl) (gc h3 (gc (fk 1 (outs_ok k (0:Int) (c.sk-(1:Int))) rfl) (gc h2 (gc (q_neF h1) (gc (fk 1 (chk_ok c h0) rfl) gn)))))
theorem rla_p2{c:Cup}{k:Int}(h0:KL.Small c)(h1:(checkP c)=(0:Int))(h2:inR (c.sk-(1:Int)))(h3:(outB k (0:Int) (c.sk-(1:Int)))=false)(h4:inR (((c.done.length+1):Nat):Int))(h5:c.ra≠(((c.done.length+1):Nat):Int)){base:Nat}:FV Tryz.prog 54 [(.p (cupP c)),(.p (intP k))] base (.p (intP 9)) []:=by
  exact FV.fin Tryz.func54 rfl (o:=[.c (.p (intP (checkP c))) [],bF,.c (.p (blP (outB k (0:Int) (c.sk-(1:Int))))) [],bF,bT]) (l:=[_,_,_,_,_,_,_]) (by kernel_rfl) (gc (q_neT h5) (gc h4 (gc h3 (gc (fk 1 (outs_ok k (0:Int) (c.sk-(1:Int))) rfl) (gc h2 (gc (q_neF h1) (gc (fk 1 (chk_ok c h0) rfl) gn)))))))
theorem rla_p3{c:Cup}{k:Int}(h0:KL.Small c)(h1:(checkP c)=(0:Int))(h2:inR (c.sk-(1:Int)))(h3:(outB k (0:Int) (c.sk-(1:Int)))=false)(h4:inR (((c.done.length+1):Nat):Int))(h5:c.ra=(((c.done.length+1):Nat):Int)){base:Nat}:FV Tryz.prog 54 [(.p (cupP c)),(.p (intP k))] base (.p (intP 0)) []:=by
  exact FV.fin Tryz.func54 rfl (o:=[.c (.p (intP (checkP c))) [],bF,.c (.p (blP (outB k (0:Int) (c.sk-(1:Int))))) [],bF,bF]) (l:=[_,_,_,_,_,_,_]) (by kernel_rfl) (gc (q_neF h5) (gc h4 (gc h3 (gc (fk 1 (outs_ok k (0:Int) (c.sk-(1:Int))) rfl) (gc h2 (gc (q_neF h1) (gc (fk 1 (chk_ok c h0) rfl) gn)))))))
def rrc_S0(n:Nat)(m:Nat)(full:Bool)(s:Nat)(on:Nat)(oc:List PV):St:=⟨fr 62 [(0,(.p (intP (n:Int)))),(1,(.p (intP (m:Int)))),(2,(.p (blP full))),(6,(.p nilS)),(7,(.own 0)),(8,(.p (intP (s:Int))))],[some (.row 22 on oc)]⟩
theorem rrc_p0{n m:Nat}{full:Bool}{s'0:Nat}{o'1:List (List Int)}(hl0:LoopOK Tryz.prog 0 zU24c4 (rrc_S0 n m full 0 1 [(.sl 0 [])]) (.exit 0) (rrc_S0 n m full s'0 o'1.length (o'1.map intsP))){base:Nat}:FV Tryz.prog 131 [(.p (intP (n:Int))),(.p (intP (m:Int))),(.p (blP full))] base (.p (rowsP o'1)) []:=by
  exact FV.frz (FMM.fin (k:=0) (g:=⟨[],[],[0],[]⟩) rfl Tryz.func131 rfl (o:=[.k 8 ⟨(rng [(3,3),(9,52)]),[1],[],[]⟩ (.exit 0) (rrc_S0 n m full s'0 o'1.length (o'1.map intsP))]) (l:=[_]) (by kernel_rfl) (gc hl0.code gn)) (by kernel_rfl)
def rrc_S1(n:Nat)(m:Nat)(full:Bool)(s:Nat)(o:List (List Int))(i:Nat)(xn:Nat)(xc:List PV):St:=⟨fr 62 [(0,(.p (intP (n:Int)))),(1,(.p (intP (m:Int)))),(2,(.p (blP full))),(6,(.p nilS)),(7,(.own 0)),(8,(.p (intP (s:Int)))),(9,(.own 1)),(10,(.p (intP (i:Int)))),(14,(.p (intP (s:Int)))),(15,(.p (intP (n:Int)))),(16,(.p (blP (decide ((s:Int)<(n:Int))))))],[some (.row 22 o.length (o.map intsP)),some (.row 22 xn xc)]⟩
theorem rrc_L0_p0{n m:Nat}{full:Bool}{s:Nat}{o:List (List Int)}{i'100:Nat}{x'101:List (List Int)}{s':Nat}{o':List (List Int)}(h0:(s:Int)<(n:Int))(hl1:LoopOK Tryz.prog 0 zU24c2 (rrc_S1 n m full s o 0 0 []) (.exit 2) (rrc_S1 n m full s o i'100 x'101.length (x'101.map intsP)))(h2:inR (((s+1):Nat):Int))(es':s'=(s+1))(eo'n:o'.length=x'101.length)(eo'c:o'.map intsP=(x'101.map intsP)):CodeOK Tryz.prog 0 zU24c4 (rrc_S0 n m full s o.length (o.map intsP)) .normal (rrc_S0 n m full s' o'.length (o'.map intsP)):=by
  subst es'
  have raw:CodeOK Tryz.prog 0 zU24c4 (rrc_S0 n m full s o.length (o.map intsP)) .normal (rrc_S0 n m full (s+1) x'101.length (x'101.map intsP)):=CodeOK.fin (g:=⟨(rng [(3,3),(9,52)]),[1],[],[]⟩) (o:=[bT,.k 8 ⟨(rng [(3,3),(11,3),(19,41)]),[0,1],[],[(9,22)]⟩ (.exit 2) (rrc_S1 n m full s o i'100 x'101.length (x'101.map intsP))]) (l:=[_,_,_]) (by kernel_rfl) (gc h2 (gc hl1.code (gc (q_lt h0) gn)))
  exact raw.cast (by rw [eo'n,eo'c])
theorem rrc_L0_p1{n m:Nat}{full:Bool}{s:Nat}{o:List (List Int)}(h0:(n:Int)≤(s:Int)):CodeOK Tryz.prog 0 zU24c4 (rrc_S0 n m full s o.length (o.map intsP)) (.exit 0) (rrc_S0 n m full s o.length (o.map intsP)):=by
  exact CodeOK.fin (g:=⟨(rng [(3,3),(9,52)]),[0],[],[]⟩) (o:=[bF]) (l:=[_]) (by kernel_rfl) (gc (q_ltF h0) gn)
def rrc_S2(n:Nat)(m:Nat)(full:Bool)(s:Nat)(o:List (List Int))(i:Nat)(p:Nat)(xn:Nat)(xc:List PV):St:=⟨fr 62 [(0,(.p (intP (n:Int)))),(1,(.p (intP (m:Int)))),(2,(.p (blP full))),(6,(.p nilS)),(7,(.own 0)),(8,(.p (intP (s:Int)))),(9,(.own 1)),(10,(.p (intP (i:Int)))),(11,(.p (intP (p:Int)))),(14,(.p (intP (s:Int)))),(15,(.p (intP (n:Int)))),(16,(.p (blP (decide ((s:Int)<(n:Int)))))),(19,(.p (intP (i:Int)))),(20,(.own 0)),(21,(.p (intP (o.length:Int)))),(22,(.p (blP (decide ((i:Int)<(o.length:Int))))))],[some (.row 22 o.length (o.map intsP)),some (.row 22 xn xc)]⟩
theorem rrc_L1_p0{n m:Nat}{full:Bool}{s:Nat}{o:List (List Int)}{i:Nat}{x:List (List Int)}{p'200:Nat}{x'201:List (List Int)}{i':Nat}{x':List (List Int)}(h0:(i:Int)<(o.length:Int))(hl1:LoopOK Tryz.prog 0 zU24c0 (rrc_S2 n m full s o i 0 x.length (x.map intsP)) (.exit 4) (rrc_S2 n m full s o i p'200 x'201.length (x'201.map intsP)))(h2:inR (((i+1):Nat):Int))(ei':i'=(i+1))(ex'n:x'.length=x'201.length)(ex'c:x'.map intsP=(x'201.map intsP)):CodeOK Tryz.prog 0 zU24c2 (rrc_S1 n m full s o i x.length (x.map intsP)) .normal (rrc_S1 n m full s o i' x'.length (x'.map intsP)):=by
  subst ei'
  have raw:CodeOK Tryz.prog 0 zU24c2 (rrc_S1 n m full s o i x.length (x.map intsP)) .normal (rrc_S1 n m full s o (i+1) x'201.length (x'201.map intsP)):=CodeOK.fin (g:=⟨(rng [(3,3),(11,3),(19,41)]),[0,1],[],[]⟩) (o:=[bT,.k 5 ⟨(rng [(3,3),(12,2),(25,35)]),[0,1],[],[]⟩ (.exit 4) (rrc_S2 n m full s o i p'200 x'201.length (x'201.map intsP))]) (l:=[_,_,_]) (by kernel_rfl) (gc h2 (gc hl1.code (gc (q_lt h0) gn)))
  exact raw.cast (by rw [ex'n,ex'c])
theorem rrc_L1_p1{n m:Nat}{full:Bool}{s:Nat}{o:List (List Int)}{i:Nat}{x:List (List Int)}(h0:(o.length:Int)≤(i:Int)):CodeOK Tryz.prog 0 zU24c2 (rrc_S1 n m full s o i x.length (x.map intsP)) (.exit 2) (rrc_S1 n m full s o i x.length (x.map intsP)):=by
  exact CodeOK.fin (g:=⟨(rng [(3,3),(11,3),(19,41)]),[0,1],[],[]⟩) (o:=[bF]) (l:=[_]) (by kernel_rfl) (gc (q_ltF h0) gn)
theorem rrc_L2_p0{n m:Nat}{full:Bool}{s:Nat}{o:List (List Int)}{i p:Nat}{x:List (List Int)}{p':Nat}(h0:(p:Int)≤(m:Int))(h1:(p:Int)=(0:Int))(h2:full=true)(h3:inR (((p+1):Nat):Int))(ep':p'=(p+1)):CodeOK Tryz.prog 0 zU24c0 (rrc_S2 n m full s o i p x.length (x.map intsP)) .normal (rrc_S2 n m full s o i p' x.length (x.map intsP)):=by
  subst ep'
  exact CodeOK.fin (g:=⟨(rng [(3,3),(12,2),(25,35)]),[0,1],[],[]⟩) (o:=[bT,bT,bT,bT,bT,bT,bT,bT]) (l:=[_,_,_,_,_,_,_,_,_]) (by kernel_rfl) (gc h3 (gc h2 (gc h2 (gc h2 (gc h2 (gc h2 (gc (q_eq h1) (gc (q_eq h1) (gc (q_le h0) gn)))))))))
theorem rrc_L2_p3{n m:Nat}{full:Bool}{s:Nat}{o:List (List Int)}{i p:Nat}{x:List (List Int)}{x300:List Int}{p':Nat}{x':List (List Int)}(h0:(p:Int)≤(m:Int))(h1:(p:Int)=(0:Int))(h2:full=false)(h3:(p:Int)≤(0:Int))(h4:o[i]? = some x300)(h5:(x300.map intP).length=x300.length*1∧0+x300.length≤1000000)(h6:[(intP (p:Int))].length=1*1∧(0+x300.length)+1≤1000000)(h7:[(PV.sl ((0+x300.length)+1) ((x300.map intP)++[(intP (p:Int))]))].length=1*1∧x.length+1≤1000000)(h8:inR (((p+1):Nat):Int))(ep':p'=(p+1))(ex'n:x'.length=(x.length+1))(ex'c:x'.map intsP=((x.map intsP)++[(PV.sl ((0+x300.length)+1) ((x300.map intP)++[(intP (p:Int))]))])):CodeOK Tryz.prog 0 zU24c0 (rrc_S2 n m full s o i p x.length (x.map intsP)) .normal (rrc_S2 n m full s o i p' x'.length (x'.map intsP)):=by
  subst ep'
  have raw:CodeOK Tryz.prog 0 zU24c0 (rrc_S2 n m full s o i p x.length (x.map intsP)) .normal (rrc_S2 n m full s o i (p+1) (x.length+1) ((x.map intsP)++[(PV.sl ((0+x300.length)+1) ((x300.map intP)++[(intP (p:Int))]))])):=CodeOK.fin (g:=⟨(rng [(3,3),(12,2),(25,35)]),[0,7],[],[]⟩) (o:=[bT,bT,bT,bF,bF,bF,bF,bF,bF,bF,bF,bF,bF,bF,bF,bF,.x (intsP x300)]) (l:=[_,_,_,_,_,_,_,_,_,_,_,_,_,_,_,_,_,_,_,_,_,_]) (by kernel_rfl) (gc h8 (gc h7 (gc h6 (gc h5 (gc (atm intsP h4) (gc (ix_own (i:=(i:Int)) (Int.natCast_nonneg _) h4) (gc h2 (gc (q_ltF h3) (gc h2 (gc (q_ltF h3) (gc (q_ltF h3) (gc (q_ltF h3) (gc (q_ltF h3) (gc (q_ltF h3) (gc (q_ltF h3) (gc (q_ltF h3) (gc h2 (gc h2 (gc h2 (gc (q_eq h1) (gc (q_eq h1) (gc (q_le h0) gn))))))))))))))))))))))
  exact raw.cast (by rw [ex'n,ex'c])
theorem rrc_L2_p4{n m:Nat}{full:Bool}{s:Nat}{o:List (List Int)}{i p:Nat}{x:List (List Int)}{x300:List Int}{p':Nat}(h0:(p:Int)≤(m:Int))(h1:(p:Int)≠(0:Int))(h2:(0:Int)<(p:Int))(h3:o[i]? = some x300)(h4:x300.length≤1000)(h5:(0:Int)<(((x300.count (p:Int)):Nat):Int))(h6:inR (((p+1):Nat):Int))(ep':p'=(p+1)):CodeOK Tryz.prog 0 zU24c0 (rrc_S2 n m full s o i p x.length (x.map intsP)) .normal (rrc_S2 n m full s o i p' x.length (x.map intsP)):=by
  subst ep'
  exact CodeOK.fin (g:=⟨(rng [(3,3),(12,2),(25,35)]),[0,1],[],[]⟩) (o:=[bT,bF,bF,bT,bT,bT,bT,.x (intsP x300),bT,bT,.c (.p (intP (((x300.count (p:Int)):Nat):Int))) [],bT,bT,bT]) (l:=[_,_,_,_,_,_,_,_,_,_,_,_,_,_,_,_]) (by kernel_rfl) (gc h6 (gc (q_lt h5) (gc (q_lt h2) (gc (q_lt h2) (gc (fk 2 (shr_ok x300 (p:Int) h4) rfl) (gc (q_lt h2) (gc (q_lt h2) (gc (atm intsP h3) (gc (q_lt h2) (gc (ix_own (i:=(i:Int)) (Int.natCast_nonneg _) h3) (gc (q_lt h2) (gc (q_lt h2) (gc (q_lt h2) (gc (q_ne h1) (gc (q_ne h1) (gc (q_le h0) gn))))))))))))))))
theorem rrc_L2_p5{n m:Nat}{full:Bool}{s:Nat}{o:List (List Int)}{i p:Nat}{x:List (List Int)}{x300:List Int}{p':Nat}{x':List (List Int)}(h0:(p:Int)≤(m:Int))(h1:(p:Int)≠(0:Int))(h2:(0:Int)<(p:Int))(h3:o[i]? = some x300)(h4:x300.length≤1000)(h5:(((x300.count (p:Int)):Nat):Int)≤(0:Int))(h6:(x300.map intP).length=x300.length*1∧0+x300.length≤1000000)(h7:[(intP (p:Int))].length=1*1∧(0+x300.length)+1≤1000000)(h8:[(PV.sl ((0+x300.length)+1) ((x300.map intP)++[(intP (p:Int))]))].length=1*1∧x.length+1≤1000000)(h9:inR (((p+1):Nat):Int))(ep':p'=(p+1))(ex'n:x'.length=(x.length+1))(ex'c:x'.map intsP=((x.map intsP)++[(PV.sl ((0+x300.length)+1) ((x300.map intP)++[(intP (p:Int))]))])):CodeOK Tryz.prog 0 zU24c0 (rrc_S2 n m full s o i p x.length (x.map intsP)) .normal (rrc_S2 n m full s o i p' x'.length (x'.map intsP)):=by
  subst ep'
  have raw:CodeOK Tryz.prog 0 zU24c0 (rrc_S2 n m full s o i p x.length (x.map intsP)) .normal (rrc_S2 n m full s o i (p+1) (x.length+1) ((x.map intsP)++[(PV.sl ((0+x300.length)+1) ((x300.map intP)++[(intP (p:Int))]))])):=CodeOK.fin (g:=⟨(rng [(3,3),(12,2),(25,35)]),[0,7],[],[]⟩) (o:=[bT,bF,bF,bT,bT,bT,bT,.x (intsP x300),bT,bT,.c (.p (intP (((x300.count (p:Int)):Nat):Int))) [],bT,bT,bF,.x (intsP x300)]) (l:=[_,_,_,_,_,_,_,_,_,_,_,_,_,_,_,_,_,_,_,_,_]) (by kernel_rfl) (gc h9 (gc h8 (gc h7 (gc h6 (gc (atm intsP h3) (gc (ix_own (i:=(i:Int)) (Int.natCast_nonneg _) h3) (gc (q_ltF h5) (gc (q_lt h2) (gc (q_lt h2) (gc (fk 2 (shr_ok x300 (p:Int) h4) rfl) (gc (q_lt h2) (gc (q_lt h2) (gc (atm intsP h3) (gc (q_lt h2) (gc (ix_own (i:=(i:Int)) (Int.natCast_nonneg _) h3) (gc (q_lt h2) (gc (q_lt h2) (gc (q_lt h2) (gc (q_ne h1) (gc (q_ne h1) (gc (q_le h0) gn)))))))))))))))))))))
  exact raw.cast (by rw [ex'n,ex'c])
theorem rrc_L2_p7{n m:Nat}{full:Bool}{s:Nat}{o:List (List Int)}{i p:Nat}{x:List (List Int)}(h0:(m:Int)<(p:Int)):CodeOK Tryz.prog 0 zU24c0 (rrc_S2 n m full s o i p x.length (x.map intsP)) (.exit 4) (rrc_S2 n m full s o i p x.length (x.map intsP)):=by
  exact CodeOK.fin (g:=⟨(rng [(3,3),(12,2),(25,35)]),[0,1],[],[]⟩) (o:=[bF]) (l:=[_]) (by kernel_rfl) (gc (q_leF h0) gn)
theorem rla_ok(c:Cup)(hS:KL.Small c)(k:Int){base:Nat}:FV Tryz.prog 54 [.p (cupP c),.p (intP k)] base (.p (intP (lastE c k))) []:=by
  by_cases h:checkP c=0
  · have hV:=(KL.valid_iff c).1 h
    have s1:=hV.sk1
    have s2:=hV.sk2
    have d1:=hV.dn
    have r2:=hV.ra2
    cases ho:outB k 0 (c.sk-1) with
    | true =>
      have hk:k<0∨c.sk≤k:=by simp only [outB,Bool.or_eq_true,decide_eq_true_eq] at ho;omega
      have e:lastE c k=1:=by
        have:=named_out hV hk
        unfold lastE
        rw [if_pos (by rw [this];omega),this]
      rw [e]
      exact rla_p1 hS h (by unfold inR;omega) ho
    | false =>
      have hk:0≤k∧k<c.sk:=by simp only [outB,Bool.or_eq_false_iff,decide_eq_false_iff_not] at ho;omega
      have en:=named_in hV hk.1 hk.2
      by_cases hd:c.ra=((c.done.length+1:Nat):Int)
      · have e:lastE c k=0:=by
          unfold lastE
          rw [if_neg (by rw [en];simp),if_neg (by omega)]
        rw [e]
        exact rla_p3 hS h (by unfold inR;omega) ho (by unfold inR;omega) hd
      · have e:lastE c k=9:=by
          unfold lastE
          rw [if_neg (by rw [en];simp),if_pos (by omega)]
        rw [e]
        exact rla_p2 hS h (by unfold inR;omega) ho (by unfold inR;omega) hd
  · have e:lastE c k=checkP c:=by
      have:=named_inv k h
      unfold lastE
      rw [if_pos (by rw [this];exact h),this]
    exact rla_p0 hS h e
theorem sl_row(r:List Int)(p:Nat):(PV.sl ((0+r.length)+1) ((r.map intP)++[intP (p:Int)]))=intsP (r++[(p:Int)]):=by
  show _=PV.sl (r++[(p:Int)]).length ((r++[(p:Int)]).map intP)
  simp
theorem rrc_ext{n m:Nat}{full:Bool}{s:Nat}{o:List (List Int)}{i:Nat}{r:List Int}(hm:m≤12)(hi:o[i]? = some r)(hr:r.length≤12){pre:List (List Int)}(hp:pre.length≤10000):LoopOK Tryz.prog 0 zU24c0 (rrc_S2 n m full s o i 0 pre.length (pre.map intsP)) (.exit 4) (rrc_S2 n m full s o i (m+1) (pre++extL full r (m+1)).length ((pre++extL full r (m+1)).map intsP)):=by
  have h:=LoopOK.count (P:=Tryz.prog) (k:=0) (b:=zU24c0) (e := .exit 4) (R:=rrc_S2 n m full s o i (m+1) (pre++extL full r (m+1)).length ((pre++extL full r (m+1)).map intsP)) (m+1) (fun p=>rrc_S2 n m full s o i p (pre++extL full r p).length ((pre++extL full r p).map intsP))
    (fun p hpm=>by
      have hs:=extL_succ full r p
      have hl:=extL_len full r p
      have e1:(pre++(extL full r p++[r++[(p:Int)]])).length=(pre++extL full r p).length+1:=by simp;omega
      have e2:(pre++(extL full r p++[r++[(p:Int)]])).map intsP=(pre++extL full r p).map intsP++[.sl ((0+r.length)+1) ((r.map intP)++[intP (p:Int)])]:=by rw [sl_row];simp
      have l1:(pre++extL full r p).length+1≤1000000:=by simp;omega
      have q1:(r.map intP).length=r.length*1∧0+r.length≤1000000:=⟨by simp,by omega⟩
      by_cases e0:p=0
      · subst e0
        cases full with
        | true =>
          rw [show extB true r 0=false from rfl,if_neg (by simp),List.append_nil] at hs
          rw [hs]
          exact rrc_L2_p0 (by omega) rfl rfl (inR_nat (by omega)) rfl
        | false =>
          rw [show extB false r 0=true from rfl,if_pos rfl] at hs
          rw [hs]
          exact rrc_L2_p3 (by omega) rfl rfl (by omega) hi q1 ⟨rfl,by omega⟩ ⟨rfl,l1⟩ (inR_nat (by omega)) rfl e1 e2
      · by_cases h0:r.count (p:Int)=0
        · have eb:extB full r p=true:=by unfold extB;rw [if_neg e0];exact decide_eq_true h0
          rw [if_pos eb] at hs
          rw [hs]
          exact rrc_L2_p5 (by omega) (by omega) (by omega) hi (by omega) (by omega) q1 ⟨rfl,by omega⟩ ⟨rfl,l1⟩ (inR_nat (by omega)) rfl e1 e2
        · have eb:¬ extB full r p=true:=by unfold extB;rw [if_neg e0];simpa using h0
          rw [if_neg eb,List.append_nil] at hs
          rw [hs]
          exact rrc_L2_p4 (by omega) (by omega) (by omega) hi (by omega) (by omega) (inR_nat (by omega)) rfl)
    (rrc_L2_p7 (by omega)) (by simp)
  have z:extL full r 0=[]:=rfl
  rw [z,List.append_nil] at h
  exact h
theorem rrc_row{n m:Nat}{full:Bool}{s:Nat}{o:List (List Int)}(hm:m≤4)(hr:∀ r∈o,r.length≤12)(ho:o.length≤700):LoopOK Tryz.prog 0 zU24c2 (rrc_S1 n m full s o 0 0 []) (.exit 2) (rrc_S1 n m full s o o.length (o.flatMap fun r=>extL full r (m+1)).length ((o.flatMap fun r=>extL full r (m+1)).map intsP)):=by
  have h:=LoopOK.count (P:=Tryz.prog) (k:=0) (b:=zU24c2) (e := .exit 2) (R:=rrc_S1 n m full s o o.length (o.flatMap fun r=>extL full r (m+1)).length ((o.flatMap fun r=>extL full r (m+1)).map intsP)) o.length (fun i=>rrc_S1 n m full s o i ((o.take i).flatMap fun r=>extL full r (m+1)).length (((o.take i).flatMap fun r=>extL full r (m+1)).map intsP))
    (fun i hi=>by
      have hx:o[i]? = some o[i]:=List.getElem?_eq_getElem hi
      have hl:((o.take i).flatMap fun r=>extL full r (m+1)).length≤10000:=by
        have:=flat_le (fun x=>extL_len full x (m+1)) (o.take i)
        have l2:(o.take i).length≤700:=by simp;omega
        have:=Nat.mul_le_mul l2 (show m+1≤5 by omega)
        omega
      have e:(o.take (i+1)).flatMap (fun r=>extL full r (m+1))=(o.take i).flatMap (fun r=>extL full r (m+1))++extL full o[i] (m+1):=by
        rw [List.take_add_one,hx,List.flatMap_append];simp
      rw [e]
      exact rrc_L1_p0 (by omega) (rrc_ext (by omega) hx (hr _ (List.getElem_mem hi)) hl) (inR_nat (by omega)) rfl rfl rfl)
    (by rw [List.take_length];exact rrc_L1_p1 (by omega)) (by simp)
  exact h
theorem rrc_ok(n m:Nat)(full:Bool)(hn:n≤4∧m≤4){base:Nat}:FV Tryz.prog 131 [.p (intP (n:Int)),.p (intP (m:Int)),.p (blP full)] base (.p (rowsP (racesM m full n))) []:=by
  have hb:∀ s,s≤4→(racesM m full s).length≤625:=fun s hs=>by
    have h1:=races_len m full s
    have h2:(m+1) ^ s≤5 ^ s:=Nat.pow_le_pow_left (by omega) s
    have h3:5 ^ s≤5 ^ 4:=Nat.pow_le_pow_right (by omega) hs
    omega
  have h:=LoopOK.count (P:=Tryz.prog) (k:=0) (b:=zU24c4) (e := .exit 0) (R:=rrc_S0 n m full n (racesM m full n).length ((racesM m full n).map intsP)) n (fun s=>rrc_S0 n m full s (racesM m full s).length ((racesM m full s).map intsP))
    (fun s hs=>by
      have hr:∀ r∈racesM m full s,r.length≤12:=fun r hr=>by have:=(races_mem.1 hr).1;omega
      exact rrc_L0_p0 (o:=racesM m full s) (o':=racesM m full (s+1)) (by omega) (rrc_row hn.2 hr (by have:=hb s (by omega);omega)) (inR_nat (by omega)) rfl rfl rfl)
    (rrc_L0_p1 (by omega)) (by simp)
  exact rrc_p0 h
theorem rrc_int(n m:Int)(full:Bool)(hn:(0≤n∧n≤4)∧0≤m∧m≤4){base:Nat}:FV Tryz.prog 131 [.p (intP n),.p (intP m),.p (blP full)] base (.p (rowsP (racesM m.toNat full n.toNat))) []:=by
  have:=rrc_ok n.toNat m.toNat full ⟨by omega,by omega⟩ (base:=base)
  rwa [Int.toNat_of_nonneg hn.1.1,Int.toNat_of_nonneg hn.2.1] at this
theorem rrc_kb(n m:Int)(full:Bool)(hn:(0≤n∧n≤4)∧0≤m∧m≤4){base:Nat}:FV Tryz.prog 131 [.p (intP n),.p (intP m),.kb full] base (.p (rowsP (racesM m.toNat full n.toNat))) []:=by
  obtain ⟨r,M1,h1,h2⟩:=rrc_int n m full hn (base:=base)
  exact ⟨r,M1,FMM.kb h1,h2⟩
def rwt_S0(c:Cup)(k:Int)(i:Nat)(wo:Int):St:=⟨fr 31 [(1,(.p (intP k))),(2,(.ptr 0 0)),(4,(.p (intP 0))),(5,(.p (rowsP (racesM c.sk.toNat false c.sk.toNat)))),(6,(.p (intP wo))),(7,(.p (intP (i:Int))))],[some (.box 37 [(.p (intP c.sk)),(.p (intP c.ra)),(.p (intP c.be)),(.p (intsP c.pts)),(.p (rowsP c.done))])]⟩
theorem rwt_p0{c:Cup}{k:Int}{i'0:Nat}{wo'1:Int}(h0:(0≤c.sk∧c.sk≤4)∧0≤c.sk∧c.sk≤4)(hl1:LoopOK Tryz.prog 0 zU24c5 (rwt_S0 c k 0 (0:Int)) (.exit 0) (rwt_S0 c k i'0 wo'1)){base:Nat}:FV Tryz.prog 59 [(.p (cupP c)),(.p (intP k))] base (.p (intP wo'1)) []:=by
  exact FV.fin Tryz.func59 rfl (o:=[.c (.p (rowsP (racesM c.sk.toNat false c.sk.toNat))) [],.k 6 ⟨(rng [(0,1),(3,1),(8,22)]),[0],[],[]⟩ (.exit 0) (rwt_S0 c k i'0 wo'1)]) (l:=[_,_]) (by kernel_rfl) (gc hl1.code (gc (fk 1 (rrc_kb c.sk c.sk false h0) rfl) gn))
theorem rwt_L0_p0{c:Cup}{k:Int}{i:Nat}{wo:Int}{x100:List Int}{l101:List (List Int)}{i':Nat}{wo':Int}(h0:(i:Int)<(((racesM c.sk.toNat false c.sk.toNat).length:Nat):Int))(h1:(racesM c.sk.toNat false c.sk.toNat)[i]? = some x100)(h2:1=l101.length)(h3:[(intsP x100)]=l101.map intsP)(h4:c.done.length+l101.length≤1000)(h5:KL.Valid (withC c l101))(h6:0≤k∧k<(withC c l101).sk)(h7:inR (((i+1):Nat):Int))(ei':i'=(i+1))(ewo':wo'=(if (rankM (withC c l101) k.toNat) > wo then (rankM (withC c l101) k.toNat) else wo)):CodeOK Tryz.prog 0 zU24c5 (rwt_S0 c k i wo) .normal (rwt_S0 c k i' wo'):=by
  subst ei' ewo'
  exact CodeOK.fin (g:=⟨(rng [(0,1),(3,1),(8,22)]),[0],[],[]⟩) (o:=[bT,.x (intsP x100),.c (.p (.agg [(intP ((withC c l101).sk)),(intP ((withC c l101).ra)),(intP ((withC c l101).be)),(intsP ((withC c l101).pts)),(rowsP ((withC c l101).done))])) [(1,.dead)],.c (.p (intP (rankM (withC c l101) k.toNat))) []]) (l:=[_,_,FC Tryz.prog 77 [(.p (cupP c)),(.own 1)] [(1,(.row 22 1 [(intsP x100)]))] 2 (.p (.agg [(intP ((withC c l101).sk)),(intP ((withC c l101).ra)),(intP ((withC c l101).be)),(intsP ((withC c l101).pts)),(rowsP ((withC c l101).done))])) [(1,.dead)],_,_,_]) (by kernel_rfl) (gc h7 (gc (fk 6 (rrk_ok (withC c l101) k h5 h6) rfl) (gc (FV.close (ids:=[1]) (args':=[(.p (cupP c)),(.p (.sl 1 [(intsP x100)]))]) (by rw [show ((.sl 1 [(intsP x100)]):PV)=rowsP l101 from sl_cast h2 h3];exact (rwi_ok c l101 h4)) (by kernel_rfl)) (gc (atm intsP h1) (gc (ixn intsP h1) (gc (q_lt h0) gn))))))
theorem rwt_L0_p1{c:Cup}{k:Int}{i:Nat}{wo:Int}(h0:(((racesM c.sk.toNat false c.sk.toNat).length:Nat):Int)≤(i:Int)):CodeOK Tryz.prog 0 zU24c5 (rwt_S0 c k i wo) (.exit 0) (rwt_S0 c k i wo):=by
  exact CodeOK.fin (g:=⟨(rng [(0,1),(3,1),(8,22)]),[0],[],[]⟩) (o:=[bF]) (l:=[_]) (by kernel_rfl) (gc (q_ltF h0) gn)
def rfu_S0(c:Cup)(k:Int)(i:Nat):St:=⟨fr 28 [(1,(.p (intP k))),(2,(.ptr 0 0)),(5,(.p (rowsP (racesM c.sk.toNat true c.sk.toNat)))),(6,(.p (intP (i:Int))))],[some (.box 37 [(.p (intP c.sk)),(.p (intP c.ra)),(.p (intP c.be)),(.p (intsP c.pts)),(.p (rowsP c.done))])]⟩
theorem rfu_p0{c:Cup}{k:Int}{i'0:Nat}(h0:(0≤c.sk∧c.sk≤4)∧0≤c.sk∧c.sk≤4)(hl1:LoopOK Tryz.prog 0 zU24c1 (rfu_S0 c k 0) (.exit 0) (rfu_S0 c k i'0)){base:Nat}:FV Tryz.prog 63 [(.p (cupP c)),(.p (intP k))] base (.p (blP false)) []:=by
  exact FV.fin Tryz.func63 rfl (o:=[.c (.p (rowsP (racesM c.sk.toNat true c.sk.toNat))) [],.k 4 ⟨(rng [(0,1),(3,2),(7,21)]),[0],[],[]⟩ (.exit 0) (rfu_S0 c k i'0)]) (l:=[_,_]) (by kernel_rfl) (gc hl1.code (gc (fk 1 (rrc_kb c.sk c.sk true h0) rfl) gn))
theorem rfu_p1{c:Cup}{k:Int}{i'0:Nat}(h0:(0≤c.sk∧c.sk≤4)∧0≤c.sk∧c.sk≤4)(hl1:LoopOK Tryz.prog 0 zU24c1 (rfu_S0 c k 0) .ret (setS (rfu_S0 c k i'0) [(4,(.kb true))])){base:Nat}:FV Tryz.prog 63 [(.p (cupP c)),(.p (intP k))] base (.p (blP true)) []:=by
  exact FV.fin Tryz.func63 rfl (o:=[.c (.p (rowsP (racesM c.sk.toNat true c.sk.toNat))) [],.k 4 ⟨(rng [(0,1),(3,2),(7,21)]),[0],[],[]⟩ .ret (setS (rfu_S0 c k i'0) [(4,(.kb true))])]) (l:=[_,_]) (by kernel_rfl) (gc hl1.code (gc (fk 1 (rrc_kb c.sk c.sk true h0) rfl) gn))
theorem rfu_L0_p0{c:Cup}{k:Int}{i:Nat}{x100:List Int}{l101:List (List Int)}(h0:(i:Int)<(((racesM c.sk.toNat true c.sk.toNat).length:Nat):Int))(h1:(racesM c.sk.toNat true c.sk.toNat)[i]? = some x100)(h2:1=l101.length)(h3:[(intsP x100)]=l101.map intsP)(h4:c.done.length+l101.length≤1000)(h5:KL.Valid (withC c l101))(h6:0≤k∧k<(withC c l101).sk)(h7:(rankM (withC c l101) k.toNat)=(1:Int)):CodeOK Tryz.prog 0 zU24c1 (rfu_S0 c k i) .ret (setS (rfu_S0 c k i) [(4,(.kb true))]):=by
  exact CodeOK.fin (g:=⟨(rng [(0,1),(3,1),(7,21)]),[0],[],[]⟩) (o:=[bT,.x (intsP x100),.c (.p (.agg [(intP ((withC c l101).sk)),(intP ((withC c l101).ra)),(intP ((withC c l101).be)),(intsP ((withC c l101).pts)),(rowsP ((withC c l101).done))])) [(1,.dead)],.c (.p (intP (rankM (withC c l101) k.toNat))) [],bT]) (l:=[_,_,FC Tryz.prog 77 [(.p (cupP c)),(.own 1)] [(1,(.row 22 1 [(intsP x100)]))] 2 (.p (.agg [(intP ((withC c l101).sk)),(intP ((withC c l101).ra)),(intP ((withC c l101).be)),(intsP ((withC c l101).pts)),(rowsP ((withC c l101).done))])) [(1,.dead)],_,_,_]) (by kernel_rfl) (gc (q_eq h7) (gc (fk 6 (rrk_ok (withC c l101) k h5 h6) rfl) (gc (FV.close (ids:=[1]) (args':=[(.p (cupP c)),(.p (.sl 1 [(intsP x100)]))]) (by rw [show ((.sl 1 [(intsP x100)]):PV)=rowsP l101 from sl_cast h2 h3];exact (rwi_ok c l101 h4)) (by kernel_rfl)) (gc (atm intsP h1) (gc (ixn intsP h1) (gc (q_lt h0) gn))))))
theorem rfu_L0_p1{c:Cup}{k:Int}{i:Nat}{x100:List Int}{l101:List (List Int)}{i':Nat}(h0:(i:Int)<(((racesM c.sk.toNat true c.sk.toNat).length:Nat):Int))(h1:(racesM c.sk.toNat true c.sk.toNat)[i]? = some x100)(h2:1=l101.length)(h3:[(intsP x100)]=l101.map intsP)(h4:c.done.length+l101.length≤1000)(h5:KL.Valid (withC c l101))(h6:0≤k∧k<(withC c l101).sk)(h7:(rankM (withC c l101) k.toNat)≠(1:Int))(h8:inR (((i+1):Nat):Int))(ei':i'=(i+1)):CodeOK Tryz.prog 0 zU24c1 (rfu_S0 c k i) .normal (rfu_S0 c k i'):=by
  subst ei'
  exact CodeOK.fin (g:=⟨(rng [(0,1),(3,2),(7,21)]),[0],[],[]⟩) (o:=[bT,.x (intsP x100),.c (.p (.agg [(intP ((withC c l101).sk)),(intP ((withC c l101).ra)),(intP ((withC c l101).be)),(intsP ((withC c l101).pts)),(rowsP ((withC c l101).done))])) [(1,.dead)],.c (.p (intP (rankM (withC c l101) k.toNat))) [],bF]) (l:=[_,_,_,FC Tryz.prog 77 [(.p (cupP c)),(.own 1)] [(1,(.row 22 1 [(intsP x100)]))] 2 (.p (.agg [(intP ((withC c l101).sk)),(intP ((withC c l101).ra)),(intP ((withC c l101).be)),(intsP ((withC c l101).pts)),(rowsP ((withC c l101).done))])) [(1,.dead)],_,_,_]) (by kernel_rfl) (gc h8 (gc (q_ne h7) (gc (fk 6 (rrk_ok (withC c l101) k h5 h6) rfl) (gc (FV.close (ids:=[1]) (args':=[(.p (cupP c)),(.p (.sl 1 [(intsP x100)]))]) (by rw [show ((.sl 1 [(intsP x100)]):PV)=rowsP l101 from sl_cast h2 h3];exact (rwi_ok c l101 h4)) (by kernel_rfl)) (gc (atm intsP h1) (gc (ixn intsP h1) (gc (q_lt h0) gn)))))))
theorem rfu_L0_p2{c:Cup}{k:Int}{i:Nat}(h0:(((racesM c.sk.toNat true c.sk.toNat).length:Nat):Int)≤(i:Int)):CodeOK Tryz.prog 0 zU24c1 (rfu_S0 c k i) (.exit 0) (rfu_S0 c k i):=by
  exact CodeOK.fin (g:=⟨(rng [(0,1),(3,2),(7,21)]),[0],[],[]⟩) (o:=[bF]) (l:=[_]) (by kernel_rfl) (gc (q_ltF h0) gn)
def isf_S0(l:List Int)(p:Nat):St:=⟨fr 14 [(0,(.p (intsP l))),(3,(.p (intP (p:Int))))],[]⟩
theorem isf_p0{l:List Int}{p'0:Nat}(hl0:LoopOK Tryz.prog 0 zU24c6 (isf_S0 l 1) (.exit 0) (isf_S0 l p'0)){base:Nat}:FV Tryz.prog 64 [(.p (intsP l))] base (.p (blP true)) []:=by
  exact FV.fin Tryz.func64 rfl (o:=[.k 6 ⟨(rng [(1,2),(4,10)]),[],[],[]⟩ (.exit 0) (isf_S0 l p'0)]) (l:=[_]) (by kernel_rfl) (gc hl0.code gn)
theorem isf_L0_p1{l:List Int}{p p':Nat}(h0:(p:Int)≤(l.length:Int))(h1:l.length≤1000)(h2:(((l.count (p:Int)):Nat):Int)=(1:Int))(h3:inR (((p+1):Nat):Int))(ep':p'=(p+1)):CodeOK Tryz.prog 0 zU24c6 (isf_S0 l p) .normal (isf_S0 l p'):=by
  subst ep'
  exact CodeOK.fin (g:=⟨(rng [(1,2),(4,10)]),[],[],[]⟩) (o:=[bT,.c (.p (intP (((l.count (p:Int)):Nat):Int))) [],bF]) (l:=[_,_,_,_]) (by kernel_rfl) (gc h3 (gc (q_neF h2) (gc (fk 0 (shr_ok l (p:Int) h1) rfl) (gc (q_le h0) gn))))
theorem isf_L0_p2{l:List Int}{p:Nat}(h0:(l.length:Int)<(p:Int)):CodeOK Tryz.prog 0 zU24c6 (isf_S0 l p) (.exit 0) (isf_S0 l p):=by
  exact CodeOK.fin (g:=⟨(rng [(1,2),(4,10)]),[],[],[]⟩) (o:=[bF]) (l:=[_]) (by kernel_rfl) (gc (q_leF h0) gn)
def rbl_S0(c:Cup)(k:Int)(p:Int)(s:Nat)(n:Int):St:=⟨fr 43 [(1,(.p (intP k))),(2,(.p (intP p))),(3,(.ptr 0 0)),(6,(.kb false)),(7,(.p (intP n))),(8,(.p (intP (s:Int))))],[some (.box 37 [(.p (intP c.sk)),(.p (intP c.ra)),(.p (intP c.be)),(.p (intsP c.pts)),(.p (rowsP c.done))])]⟩
theorem rbl_p0{c:Cup}{k p:Int}{s'0:Nat}{n'1:Int}{r0:Bool}(hl0:LoopOK Tryz.prog 0 zU24c3 (rbl_S0 c k p 0 (0:Int)) (.exit 0) (rbl_S0 c k p s'0 n'1))(h1:inR (p-(1:Int)))(er0:r0=(decide (n'1<(p-(1:Int))))){base:Nat}:FV Tryz.prog 62 [(.p (cupP c)),(.p (intP k)),(.p (intP p))] base (.p (blP r0)) []:=by
  subst er0
  exact FV.fin Tryz.func62 rfl (o:=[.k 8 ⟨(rng [(0,1),(4,2),(9,30)]),[0],[],[]⟩ (.exit 0) (rbl_S0 c k p s'0 n'1)]) (l:=[_,_]) (by kernel_rfl) (gc h1 (gc hl0.code gn))
theorem rbl_L0_p0{c:Cup}{k p:Int}{s:Nat}{n:Int}{s':Nat}(h0:(s:Int)<c.sk)(h1:(s:Int)=k)(h2:inR (((s+1):Nat):Int))(es':s'=(s+1)):CodeOK Tryz.prog 0 zU24c3 (rbl_S0 c k p s n) .normal (rbl_S0 c k p s' n):=by
  subst es'
  exact CodeOK.fin (g:=⟨(rng [(0,1),(4,2),(9,30)]),[0],[],[]⟩) (o:=[bT,bT]) (l:=[_,_,_]) (by kernel_rfl) (gc h2 (gc (q_eq h1) (gc (q_lt h0) gn)))
theorem rbl_L0_p1{c:Cup}{k p:Int}{s:Nat}{n:Int}{l100:List (List Int)}{s':Nat}{n':Int}(h0:(s:Int)<c.sk)(h1:(s:Int)≠k)(h2:0≤c.sk∧c.sk≤c.sk∧c.sk≤1000000)(h3:0≤(s:Int)∧(s:Int)<((c.sk.toNat:Nat):Int))(h4:(s*1)<(List.replicate c.sk.toNat (intP 0)).length)(h5:0≤k∧k<((c.sk.toNat:Nat):Int))(h6:(k.toNat*1)<((List.replicate c.sk.toNat (intP 0)).set (s*1) (intP p)).length)(h7:1=l100.length)(h8:[(.sl c.sk.toNat (((List.replicate c.sk.toNat (intP 0)).set (s*1) (intP p)).set (k.toNat*1) (intP 1)))]=l100.map intsP)(h9:c.done.length+l100.length≤1000)(h10:KL.Valid (withC c l100))(h11:0≤(s:Int)∧(s:Int)<(withC c l100).sk)(h12:0≤k∧k<(withC c l100).sk)(h13:(betS (withC c l100) (s:Int).toNat k.toNat)=false)(h14:inR (n+(1:Int)))(h15:inR (((s+1):Nat):Int))(es':s'=(s+1))(en':n'=(n+(1:Int))):CodeOK Tryz.prog 0 zU24c3 (rbl_S0 c k p s n) .normal (rbl_S0 c k p s' n'):=by
  subst es' en'
  exact CodeOK.fin (g:=⟨(rng [(0,1),(4,2),(9,30)]),[0],[],[]⟩) (o:=[bT,bF,.c (.p (.agg [(intP ((withC c l100).sk)),(intP ((withC c l100).ra)),(intP ((withC c l100).be)),(intsP ((withC c l100).pts)),(rowsP ((withC c l100).done))])) [(2,.dead)],.c (.p (blP (betS (withC c l100) (s:Int).toNat k.toNat))) [],bT]) (l:=[_,_,_,_,FC Tryz.prog 77 [(.p (cupP c)),(.own 2)] [(2,(.row 22 1 [(.sl c.sk.toNat (((List.replicate c.sk.toNat (intP 0)).set (s*1) (intP p)).set (k.toNat*1) (intP 1)))]))] 3 (.p (.agg [(intP ((withC c l100).sk)),(intP ((withC c l100).ra)),(intP ((withC c l100).be)),(intsP ((withC c l100).pts)),(rowsP ((withC c l100).done))])) [(2,.dead)],_,_,_,_,_,_,_]) (by kernel_rfl) (gc h15 (gc h14 (gc (q_not h13) (gc (fk 3 (rbt_ok (withC c l100) (s:Int) k h10 h11 h12) rfl) (gc (FV.close (ids:=[2]) (args':=[(.p (cupP c)),(.p (.sl 1 [(.sl c.sk.toNat (((List.replicate c.sk.toNat (intP 0)).set (s*1) (intP p)).set (k.toNat*1) (intP 1)))]))]) (by rw [show ((.sl 1 [(.sl c.sk.toNat (((List.replicate c.sk.toNat (intP 0)).set (s*1) (intP p)).set (k.toNat*1) (intP 1)))]):PV)=rowsP l100 from sl_cast h7 h8];exact (rwi_ok c l100 h9)) (by kernel_rfl)) (gc h6 (gc h5 (gc h4 (gc h3 (gc h2 (gc (q_ne h1) (gc (q_lt h0) gn))))))))))))
theorem rbl_L0_p2{c:Cup}{k p:Int}{s:Nat}{n:Int}{l100:List (List Int)}{s':Nat}(h0:(s:Int)<c.sk)(h1:(s:Int)≠k)(h2:0≤c.sk∧c.sk≤c.sk∧c.sk≤1000000)(h3:0≤(s:Int)∧(s:Int)<((c.sk.toNat:Nat):Int))(h4:(s*1)<(List.replicate c.sk.toNat (intP 0)).length)(h5:0≤k∧k<((c.sk.toNat:Nat):Int))(h6:(k.toNat*1)<((List.replicate c.sk.toNat (intP 0)).set (s*1) (intP p)).length)(h7:1=l100.length)(h8:[(.sl c.sk.toNat (((List.replicate c.sk.toNat (intP 0)).set (s*1) (intP p)).set (k.toNat*1) (intP 1)))]=l100.map intsP)(h9:c.done.length+l100.length≤1000)(h10:KL.Valid (withC c l100))(h11:0≤(s:Int)∧(s:Int)<(withC c l100).sk)(h12:0≤k∧k<(withC c l100).sk)(h13:(betS (withC c l100) (s:Int).toNat k.toNat)=true)(h14:inR (((s+1):Nat):Int))(es':s'=(s+1)):CodeOK Tryz.prog 0 zU24c3 (rbl_S0 c k p s n) .normal (rbl_S0 c k p s' n):=by
  subst es'
  exact CodeOK.fin (g:=⟨(rng [(0,1),(4,2),(9,30)]),[0],[],[]⟩) (o:=[bT,bF,.c (.p (.agg [(intP ((withC c l100).sk)),(intP ((withC c l100).ra)),(intP ((withC c l100).be)),(intsP ((withC c l100).pts)),(rowsP ((withC c l100).done))])) [(2,.dead)],.c (.p (blP (betS (withC c l100) (s:Int).toNat k.toNat))) [],bF]) (l:=[_,_,_,FC Tryz.prog 77 [(.p (cupP c)),(.own 2)] [(2,(.row 22 1 [(.sl c.sk.toNat (((List.replicate c.sk.toNat (intP 0)).set (s*1) (intP p)).set (k.toNat*1) (intP 1)))]))] 3 (.p (.agg [(intP ((withC c l100).sk)),(intP ((withC c l100).ra)),(intP ((withC c l100).be)),(intsP ((withC c l100).pts)),(rowsP ((withC c l100).done))])) [(2,.dead)],_,_,_,_,_,_,_]) (by kernel_rfl) (gc h14 (gc (q_notF h13) (gc (fk 3 (rbt_ok (withC c l100) (s:Int) k h10 h11 h12) rfl) (gc (FV.close (ids:=[2]) (args':=[(.p (cupP c)),(.p (.sl 1 [(.sl c.sk.toNat (((List.replicate c.sk.toNat (intP 0)).set (s*1) (intP p)).set (k.toNat*1) (intP 1)))]))]) (by rw [show ((.sl 1 [(.sl c.sk.toNat (((List.replicate c.sk.toNat (intP 0)).set (s*1) (intP p)).set (k.toNat*1) (intP 1)))]):PV)=rowsP l100 from sl_cast h7 h8];exact (rwi_ok c l100 h9)) (by kernel_rfl)) (gc h6 (gc h5 (gc h4 (gc h3 (gc h2 (gc (q_ne h1) (gc (q_lt h0) gn)))))))))))
theorem rbl_L0_p3{c:Cup}{k p:Int}{s:Nat}{n:Int}(h0:c.sk≤(s:Int)):CodeOK Tryz.prog 0 zU24c3 (rbl_S0 c k p s n) (.exit 0) (rbl_S0 c k p s n):=by
  exact CodeOK.fin (g:=⟨(rng [(0,1),(4,2),(9,30)]),[0],[],[]⟩) (o:=[bF]) (l:=[_]) (by kernel_rfl) (gc (q_ltF h0) gn)
def maxF(g:List Int→Int)(w:Int)(x:List Int):Int:=if g x > w then g x else w
theorem maxF_fold(g:List Int→Int){W:Int}:∀ (l:List (List Int)) (a:Int),a≤W→(∀ x∈l,g x≤W)→l.foldl (maxF g) a≤W∧a≤l.foldl (maxF g) a∧∀ x∈l,g x≤l.foldl (maxF g) a
  | [],a,h,_=>⟨h,by simp,fun x hx=>by simp at hx⟩
  | y::l,a,h,hx=>by
    have hy:=hx y List.mem_cons_self
    have h1:maxF g a y≤W:=by unfold maxF;split <;> omega
    obtain ⟨q1,q2,q3⟩:=maxF_fold g l (maxF g a y) h1 fun x h=>hx x (List.mem_cons_of_mem _ h)
    have h2:a≤maxF g a y∧g y≤maxF g a y:=by unfold maxF;split <;> omega
    refine ⟨q1,by rw [List.foldl_cons];omega,fun x h => ?_⟩
    rw [List.foldl_cons]
    rcases List.mem_cons.1 h with rfl | h
    · omega
    · exact q3 x h
def wrk(c:Cup)(k:Nat)(r:List Int):Int:=rankM (withC c [r]) k
theorem races_worst{c:Cup}{k:Nat}(hL:LastOK c k):(racesM c.sk.toNat false c.sk.toNat).foldl (maxF (wrk c k)) 0=(worstM c k).1:=by
  have s1:=hL.hv.sk1
  have s2:=hL.hv.sk2
  have hf:=worst_fin hL
  have hn:=hf.n2
  have hl:=rivM_len c k
  have hm:(worstM c k).2.2∈racesM c.sk.toNat false c.sk.toNat:=races_mem.2 ⟨hf.len,fun x hx=>by have:=hf.bd x hx;exact ⟨by omega,by omega,fun h=>by cases h⟩,hf.ns⟩
  have he:=worst_eq hL
  have h0:0≤(worstM c k).1:=by rw [← he,rank_rivals hL (worst_race hL)];omega
  obtain ⟨q1,q2,q3⟩:=maxF_fold (wrk c k) (W:=(worstM c k).1) _ 0 h0 fun x hx=>worst_ge hL (races_raceN ⟨by omega,by omega⟩ hx)
  have q4:=q3 _ hm
  have e2:wrk c k (worstM c k).2.2=(worstM c k).1:=he
  omega
theorem rwt_ok(c:Cup)(k:Int)(h:LastK c k∧c.sk≤4){base:Nat}:FV Tryz.prog 59 [.p (cupP c),.p (intP k)] base (.p (intP (worstM c k.toNat).1)) []:=by
  obtain ⟨h,h4⟩:=h
  have s1:=h.1.sk1
  have d1:=h.1.dn
  have r2:=h.1.ra2
  obtain ⟨l,el⟩:∃ l,l=racesM c.sk.toNat false c.sk.toNat:=⟨_,rfl⟩
  have hl:l.length≤625:=by
    have h1:=races_len c.sk.toNat false c.sk.toNat
    have h2:(c.sk.toNat+1) ^ c.sk.toNat≤5 ^ c.sk.toNat:=Nat.pow_le_pow_left (by omega) _
    have h3:5 ^ c.sk.toNat≤5 ^ 4:=Nat.pow_le_pow_right (by omega) (by omega)
    rw [el];omega
  have hr:∀ r∈l,KL.Valid (withC c [r]):=fun r hr=>(races_raceN (full:=false) ⟨by omega,by omega⟩ (by rw [el] at hr;exact hr)).valid h.ok
  have L:=LoopOK.count (P:=Tryz.prog) (k:=0) (b:=zU24c5) (e := .exit 0) (R:=rwt_S0 c k l.length (l.foldl (maxF (wrk c k.toNat)) 0)) l.length (fun i=>rwt_S0 c k i ((l.take i).foldl (maxF (wrk c k.toNat)) 0))
    (fun i hi=>by
      have hx:l[i]? = some l[i]:=List.getElem?_eq_getElem hi
      refine rwt_L0_p0 (l101:=[l[i]]) (by rw [← el];omega) (by rw [← el];exact hx) rfl rfl (by simp;omega) (hr _ (List.getElem_mem hi)) ⟨h.2.1.1,h.2.1.2⟩ (inR_nat (by omega)) rfl ?_
      rw [List.take_add_one,hx,List.foldl_append];rfl)
    (by rw [List.take_length];exact rwt_L0_p1 (by rw [← el];omega)) (by simp)
  have:=rwt_p0 (base:=base) ⟨⟨by omega,h4⟩,by omega,h4⟩ L
  rw [el,races_worst h.ok] at this
  exact this
theorem rfu_loop(c:Cup)(k:Int)(h:LastK c k∧c.sk≤4):(∃ f,fullM c k.toNat=some f∧∃ i,LoopOK Tryz.prog 0 zU24c1 (rfu_S0 c k 0) .ret (setS (rfu_S0 c k i) [(4,.kb true)]))∨(fullM c k.toNat=none∧∃ i,LoopOK Tryz.prog 0 zU24c1 (rfu_S0 c k 0) (.exit 0) (rfu_S0 c k i)):=by
  obtain ⟨h,h4⟩:=h
  have s1:=h.1.sk1
  have d1:=h.1.dn
  have r2:=h.1.ra2
  obtain ⟨l,el⟩:∃ l,l=racesM c.sk.toNat true c.sk.toNat:=⟨_,rfl⟩
  have hl:l.length≤625:=by
    have h1:=races_len c.sk.toNat true c.sk.toNat
    have h2:(c.sk.toNat+1) ^ c.sk.toNat≤5 ^ c.sk.toNat:=Nat.pow_le_pow_left (by omega) _
    have h3:5 ^ c.sk.toNat≤5 ^ 4:=Nat.pow_le_pow_right (by omega) (by omega)
    rw [el];omega
  have hF:∀ r∈l,Full c.sk.toNat r:=fun r hr=>races_full.1 (by rw [el] at hr;exact hr)
  have hr:∀ r∈l,KL.Valid (withC c [r]):=fun r h1=>((hF r h1).raceN h.ok).valid h.ok
  rcases LoopOK.find (P:=Tryz.prog) (k:=0) (b:=zU24c1) (fun i=>rfu_S0 c k i) (fun i _=>setS (rfu_S0 c k i) [(4,.kb true)]) (rfu_S0 c k l.length) .ret (.exit 0) (by simp) (by simp) (fun r:List Int=>decide (rankM (withC c [r]) k.toNat=1)) l
    (fun i x hx hp=>rfu_L0_p1 (l101:=[x]) (by have:=lt_of_at hx;rw [← el];omega) (by rw [← el];exact hx) rfl rfl (by simp;omega) (hr _ (List.mem_of_getElem? hx)) ⟨h.2.1.1,h.2.1.2⟩ (by simpa using hp) (inR_nat (by have:=lt_of_at hx;omega)) rfl)
    (fun i x hx hp=>rfu_L0_p0 (l101:=[x]) (by have:=lt_of_at hx;rw [← el];omega) (by rw [← el];exact hx) rfl rfl (by simp;omega) (hr _ (List.mem_of_getElem? hx)) ⟨h.2.1.1,h.2.1.2⟩ (by simpa using hp))
    (rfu_L0_p2 (i:=l.length) (by rw [← el];omega)) with ⟨i,x,h1,h2,h3,h5⟩ | ⟨h1,h2,h3⟩
  · refine .inl ?_
    cases e:fullM c k.toNat with
    | some f=>exact ⟨f,rfl,i,h5⟩
    | none=>exact absurd (of_decide_eq_true h3) (none_first h.ok e (hF _ (List.mem_of_getElem? h1)))
  · refine .inr ?_
    cases e:fullM c k.toNat with
    | none=>exact ⟨rfl,_,h3⟩
    | some f =>
      obtain ⟨g1,g2⟩:=full_first h.ok e
      have:=List.findIdx?_eq_none_iff.1 h1 f (by rw [el];exact races_full.2 g1)
      simp [g2] at this
theorem rfu_s(c:Cup)(k:Int)(f:List Int)(h:LastK c k∧c.sk≤4)(e:fullM c k.toNat=some f){base:Nat}:FV Tryz.prog 63 [.p (cupP c),.p (intP k)] base (.p (blP true)) []:=by
  have h1:=h.1.1.sk1
  rcases rfu_loop c k h with ⟨_,_,i,L⟩ | ⟨e2,_⟩
  · exact rfu_p1 ⟨⟨by omega,h.2⟩,by omega,h.2⟩ L
  · rw [e] at e2;cases e2
theorem rfu_n(c:Cup)(k:Int)(h:LastK c k∧c.sk≤4)(e:fullM c k.toNat=none){base:Nat}:FV Tryz.prog 63 [.p (cupP c),.p (intP k)] base (.p (blP false)) []:=by
  have h1:=h.1.1.sk1
  rcases rfu_loop c k h with ⟨_,e2,_⟩ | ⟨_,i,L⟩
  · rw [e] at e2;cases e2
  · exact rfu_p0 ⟨⟨by omega,h.2⟩,by omega,h.2⟩ L
theorem isf_ok(l:List Int)(n:Nat)(h:Full n l∧n≤100){base:Nat}:FV Tryz.prog 64 [.p (intsP l)] base (.p (blP true)) []:=by
  obtain ⟨h,hn⟩:=h
  have hl:=h.len
  have L:=LoopOK.count (P:=Tryz.prog) (k:=0) (b:=zU24c6) (e := .exit 0) (R:=isf_S0 l (n+1)) n (fun p=>isf_S0 l (p+1))
    (fun p hp=>by
      have h1:=List.nodup_iff_count.1 h.nd ((p+1:Nat):Int)
      have h2:=List.count_pos_iff.2 (h.mem (p:=((p+1:Nat):Int)) (by omega) (by omega))
      exact isf_L0_p1 (by omega) (by omega) (by omega) (inR_nat (by omega)) rfl)
    (isf_L0_p2 (by omega)) (by simp)
  exact isf_p0 L
theorem race2_sl(n o:Nat)(p:Int)(s:Nat):PV.sl n (((List.replicate n (intP 0)).set (o*1) (intP p)).set (s*1) (intP 1))=intsP (KL.race2 n o p s 1):=by
  show _=PV.sl (KL.race2 n o p s 1).length ((KL.race2 n o p s 1).map intP)
  rw [KL.race2_length]
  unfold KL.race2
  rw [List.map_set,List.map_set,List.map_replicate,Nat.mul_one,Nat.mul_one]
def hUp(c:Cup)(s:Nat)(p:Int)(i:Nat):Nat:=(List.range i).countP fun x => !beatsM c x p s 1 && decide (x≠s)
theorem hUp_all(c:Cup)(s:Nat)(p:Int):harmM c s p=(hUp c s p c.sk.toNat:Nat):=by
  rw [harm_cnt]
  unfold hUp KL.oth
  rw [List.countP_filter]
theorem hUp_succ(c:Cup)(s:Nat)(p:Int)(i:Nat):hUp c s p (i+1)=hUp c s p i+if (!beatsM c i p s 1 && decide (i≠s))=true then 1 else 0:=by
  unfold hUp
  rw [List.range_succ,List.countP_append,List.countP_singleton]
theorem rbl_ok(c:Cup)(k p:Int)(h:LastK c k)(hp:2≤p∧p≤c.sk){base:Nat}:FV Tryz.prog 62 [.p (cupP c),.p (intP k),.p (intP p)] base (.p (blP (blkM c k.toNat p))) []:=by
  have s1:=h.1.sk1
  have s2:=h.1.sk2
  have d1:=h.1.dn
  have r2:=h.1.ra2
  have hk:=h.2.1
  have hb:∀ i,hUp c k.toNat p i≤i:=fun i=>Nat.le_trans List.countP_le_length (by simp)
  have L:=LoopOK.count (P:=Tryz.prog) (k:=0) (b:=zU24c3) (e := .exit 0) (R:=rbl_S0 c k p c.sk.toNat (hUp c k.toNat p c.sk.toNat:Nat)) c.sk.toNat (fun s=>rbl_S0 c k p s (hUp c k.toNat p s:Nat))
    (fun s hs=>by
      have hu:=hUp_succ c k.toNat p s
      have hv:=KL.valid_race2 h.1 (show (c.done.length:Int)<c.ra by have:=h.2.2;omega) (o:=s) (s:=k.toNat) (p:=p) (w:=1) (by omega) (by omega) (.inr (.inr (by omega)))
      have hbs:=hb s
      by_cases e:(s:Int)=k
      · have e2:¬ s≠k.toNat:=by omega
        rw [decide_eq_false e2,Bool.and_false,if_neg (by simp),Nat.add_zero] at hu
        rw [hu]
        exact rbl_L0_p0 (by omega) e (inR_nat (by omega)) rfl
      · have e2:s≠k.toNat:=by omega
        rw [decide_eq_true e2,Bool.and_true] at hu
        have ca:[PV.sl c.sk.toNat (((List.replicate c.sk.toNat (intP 0)).set (s*1) (intP p)).set (k.toNat*1) (intP 1))]=[KL.race2 c.sk.toNat s p k.toNat 1].map intsP:=by rw [race2_sl];rfl
        cases b:beatsM c s p k.toNat 1 with
        | true =>
          rw [b,if_neg (by simp),Nat.add_zero] at hu
          rw [hu]
          exact rbl_L0_p2 (l100:=[KL.race2 c.sk.toNat s p k.toNat 1]) (by omega) e ⟨by omega,by omega,by omega⟩ ⟨by omega,by omega⟩ (by simp;omega) ⟨by omega,by omega⟩ (by simp;omega) rfl ca (by simp;omega) hv ⟨by omega,show (s:Int)<c.sk by omega⟩ ⟨hk.1,hk.2⟩ b (inR_nat (by omega)) rfl
        | false =>
          rw [b,if_pos (by simp)] at hu
          exact rbl_L0_p1 (l100:=[KL.race2 c.sk.toNat s p k.toNat 1]) (by omega) e ⟨by omega,by omega,by omega⟩ ⟨by omega,by omega⟩ (by simp;omega) ⟨by omega,by omega⟩ (by simp;omega) rfl ca (by simp;omega) hv ⟨by omega,show (s:Int)<c.sk by omega⟩ ⟨hk.1,hk.2⟩ b (by unfold inR;omega) (inR_nat (by omega)) rfl (by rw [hu];omega))
    (rbl_L0_p3 (by omega)) (by simp)
  refine rbl_p0 L (by unfold inR;omega) ?_
  unfold blkM
  rw [hUp_all]
theorem bls_o(c:Cup)(k p:Int)(h:LastK c k)(hp:p<2∨c.sk<p){base:Nat}:FV Tryz.prog 58 [.p (cupP c),.p (intP k),.p (intP p)] base (.tup [.p (blP false),.p (intP 3)]) []:=by
  have:=blocks_ok c k.toNat p (lastK_e h) (base:=base)
  rwa [if_neg (by unfold within;simp;omega),Int.toNat_of_nonneg h.2.1.1] at this
theorem rsh_i(c:Cup)(k:Int)(f:List (List Int))(h:LastK c k)(hF:FurN c f){base:Nat}:FV Tryz.prog 60 [.p (cupP c),.p (intP k),.p (rowsP f)] base (.tup [.p (blP (rankM (withC c f) k.toNat == 1)),.p (intP 0)]) []:=by
  have:=rsh_fur c k.toNat f h.1 (by have:=h.2.1;omega) hF (base:=base)
  rwa [Int.toNat_of_nonneg h.2.1.1] at this
theorem rla_0(c:Cup)(k:Int)(h:LastK c k){base:Nat}:FV Tryz.prog 54 [.p (cupP c),.p (intP k)] base (.p (intP 0)) []:=by
  have:=rla_ok c h.1.small k (base:=base)
  have e:=lastK_e h
  rw [Int.toNat_of_nonneg h.2.1.1] at e
  rwa [e] at this
theorem wek_ok(c:Cup)(hS:KL.Small c)(k:Int)(h:lastE c k≠0){base:Nat}:FV Tryz.prog 55 [.p (cupP c),.p (intP k)] base (.tup [.p (intP 0),.p nilS,.p (intP (lastE c k))]) []:=wek_p0 hS h rfl
theorem fek_ok(c:Cup)(hS:KL.Small c)(k:Int)(h:lastE c k≠0){base:Nat}:FV Tryz.prog 56 [.p (cupP c),.p (intP k)] base (.tup [.p nilS,.p (intP (lastE c k))]) []:=fek_p0 hS h rfl
theorem bek_ok(c:Cup)(hS:KL.Small c)(k:Int)(h:lastE c k≠0){base:Nat}:FV Tryz.prog 57 [.p (cupP c),.p (intP k)] base (.tup [.p (intP 0),.p (intP (lastE c k))]) []:=bek_p0 hS h rfl
theorem sek_ok(c:Cup)(hS:KL.Small c)(k p:Int)(h:lastE c k≠0){base:Nat}:FV Tryz.prog 58 [.p (cupP c),.p (intP k),.p (intP p)] base (.tup [.p (blP false),.p (intP (lastE c k))]) []:=sek_p0 hS h rfl
end
section
open KL
noncomputable abbrev zU25c0:Code:=sub (cd Tryz.f10) [1,1,1,1,1,1,1,1,1,1,1,1,1,0,1,0,0]
theorem zU25q0:((0:Int) != (0:Int))=false:=by first | decide | simp
theorem zU25q1:((0:Int) == (0:Int))=true:=by first | decide | simp
theorem zU25q2:((6:Int) != (6:Int))=false:=by first | decide | simp
theorem zU25q3:((3:Int) == (3:Int))=true:=by first | decide | simp
theorem zU25q4:(decide ((0:Int) > (0:Int)))=false:=by first | decide | simp
theorem llG_p0{c:Cup}{k p:Int}(h0:(grtB c (4:Int))=true){base:Nat}:FV Tryz.prog 10 [(.p (cupP c)),(.p (intP k)),(.p (intP p))] base (.p (blP true)) []:=by
  exact FV.fin Tryz.func10 rfl (o:=[.c (.p (blP (grtB c (4:Int)))) [],bT,.c (.p (blP true)) []]) (l:=[FC Tryz.prog 19 [] [] 1 (.p (blP true)) [],_,_]) (by kernel_rfl) (gc (FV.fc (awake_ok _) rfl) (gc h0 (gc (fk 1 (grt_ok c (4:Int)) rfl) gn)))
theorem llE_p0{c:Cup}{k p:Int}(h0:(grtB c (4:Int))=false)(h1:KL.Small c)(h2:lastE c k≠0)(h3:(lastE c k)≠(0:Int))(h4:(lastE c k)=(lastE c k))(h5:c=c){base:Nat}:FV Tryz.prog 10 [(.p (cupP c)),(.p (intP k)),(.p (intP p))] base (.p (blP true)) []:=by
  exact FV.fin Tryz.func10 rfl (o:=[.c (.p (blP (grtB c (4:Int)))) [],bF,.c (.p (cupP c)) [],.c (.p (intP (lastE c k))) [],.c (.tup [(.p (intP 0)),(.p nilS),(.p (intP (lastE c k)))]) [],.c (.tup [(.p nilS),(.p (intP (lastE c k)))]) [],.c (.tup [(.p (intP 0)),(.p (intP (lastE c k)))]) [],.c (.tup [(.p (blP false)),(.p (intP (lastE c k)))]) [],bT,bT,bT,bT,bT,bT,bT,bT,bT,bT,bT,bT,bT,bT,bT,bT,bT,bT,bT,bT,bT,bT,bT,bT,bT,bT,bT,bT,bT,bT,bT,bT,.c (.p (blP true)) [],bT,bT,.c (.p (blP true)) [],bT]) (l:=[true=true,FC Tryz.prog 19 [] [] 7 (.p (blP true)) [],true=true,true=true,_,true=true,true=true,true=true,_,_,_,_,_,_,_,_,inR (0:Int),_,_,_,_,_,_,_,_,_,_,_,_,_,_,_,_,_,_,_,_,_,_,_,_,_,_,_,_,_]) (by kernel_rfl) (gc rfl (gc (FV.fc (awake_ok _) rfl) (gc rfl (gc rfl (gc (fk 7 (sam_ok c c h5 h1) rfl) (gc rfl (gc rfl (gc rfl (gc zU25q1 (gc zU25q1 (gc zU25q1 (gc zU25q1 (gc zU25q1 (gc zU25q1 (gc zU25q1 (gc zU25q1 (gc (by unfold inR;omega) (gc zU25q1 (gc zU25q1 (gc zU25q1 (gc zU25q1 (gc zU25q1 (gc (q_eq h4) (gc (q_eq h4) (gc (q_eq h4) (gc (q_eq h4) (gc (q_eq h4) (gc (q_eq h4) (gc (q_eq h4) (gc (q_eq h4) (gc (q_eq h4) (gc (q_eq h4) (gc (q_eq h4) (gc (q_eq h4) (gc (q_eq h4) (gc (q_eq h4) (gc (q_eq h4) (gc (q_neT h3) (gc (fk 7 (sek_ok c h1 k p h2) rfl) (gc (fk 7 (bek_ok c h1 k h2) rfl) (gc (fk 7 (fek_ok c h1 k h2) rfl) (gc (fk 7 (wek_ok c h1 k h2) rfl) (gc (fk 7 (rla_ok c h1 k) rfl) (gc (fk 1 (cln_ok c h1) rfl) (gc h0 (gc (fk 1 (grt_ok c (4:Int)) rfl) gn))))))))))))))))))))))))))))))))))))))))))))))
def llSI_S0(c:Cup)(k:Int)(p:Int)(f0:List Int)(q:Int)(le:Int):St:=⟨fr 256 [(1,(.p (intP k))),(2,(.p (intP p))),(3,(.ptr 0 0)),(6,(.kb false)),(7,(.ptr 1 0)),(8,(.ptr 2 0)),(13,(.p (intsP f0))),(14,(.p (intP 0))),(15,(.p (intP 0))),(16,(.p (intP 6))),(17,(.p (blP (blkM c k.toNat p)))),(18,(.p (intP 0))),(23,(.p (intP le))),(24,(.p (intP q)))],[some (.box 25 [(.p (intP c.sk)),(.p (intP c.ra)),(.p (intP c.be)),(.p (intsP c.pts)),(.p (rowsP c.done))]),some (.box 25 [(.p (intP c.sk)),(.p (intP c.ra)),(.p (intP c.be)),(.p (intsP c.pts)),(.p (rowsP c.done))]),some (.box 37 [(.p (intP c.sk)),(.p (intP c.ra)),(.p (intP c.be)),(.p (intsP c.pts)),(.p (rowsP c.done))])]⟩
theorem llSI_p3{c:Cup}{k p:Int}{f0:List Int}{l1:List (List Int)}{q'2 le'3:Int}{l4:List (List Int)}(h0:(grtB c (4:Int))=false)(h1:KL.Small c)(h2:LastK c k)(h3:fullM c k.toNat=some f0)(h4:blockM c k.toNat=none)(h5:2≤p∧p≤c.sk)(h6:LastK c k∧c.sk≤4)(h7:((worstM c k.toNat).1)=((worstM c k.toNat).1))(h8:1=l1.length)(h9:[(intsP ((worstM c k.toNat).2.2))]=l1.map intsP)(h10:KL.Valid c)(h11:KL.Valid (withC c l1))(h12:FurN c l1)(h13:0≤k∧k<(withC c l1).sk)(h14:(rankM (withC c l1) k.toNat)=((worstM c k.toNat).1))(hl15:LoopOK Tryz.prog 0 zU25c0 (llSI_S0 c k p f0 c.sk (0:Int)) (.exit 0) (llSI_S0 c k p f0 q'2 le'3))(h16:1=l4.length)(h17:[(intsP f0)]=l4.map intsP)(h18:FurN c l4)(h19:(rankM (withC c l4) k.toNat == 1)=true)(h20:Full c.sk.toNat f0∧c.sk.toNat≤100)(h21:le'3=(0:Int))(h22:(2:Int)≤p)(h23:p≤c.sk)(h24:((blkM c k.toNat p) == (blkM c k.toNat p))=true)(h25:c=c){base:Nat}:FV Tryz.prog 10 [(.p (cupP c)),(.p (intP k)),(.p (intP p))] base (.p (blP true)) []:=by
  exact FV.fin Tryz.func10 rfl (o:=[.c (.p (blP (grtB c (4:Int)))) [],bF,.c (.p (cupP c)) [],.c (.p (intP 0)) [],.c (.tup [(.p (intP ((worstM c k.toNat).1))),(.p (intsP ((worstM c k.toNat).2.2))),(.p (intP 0))]) [],.c (.tup [(.p (intsP f0)),(.p (intP 0))]) [],.c (.tup [(.p (intP 0)),(.p (intP 6))]) [],.c (.tup [(.p (blP (blkM c k.toNat p))),(.p (intP 0))]) [],bF,bF,bF,bF,bF,.c (.p (intP ((worstM c k.toNat).1))) [],bF,bF,bF,.c (.tup [(.p (.agg [(intP ((withC c l1).sk)),(intP ((withC c l1).ra)),(intP ((withC c l1).be)),(intsP ((withC c l1).pts)),(rowsP ((withC c l1).done))])),(.p (intP 0))]) [(7,.dead)],.c (.tup [(.p (blP (rankM (withC c l1) k.toNat == 1))),(.p (intP 0))]) [],bF,bF,bF,bF,bF,bF,.c (.p (intP (rankM (withC c l1) k.toNat))) [],bF,bF,bF,bF,.k 6 ⟨(rng [(0,1),(4,2),(9,4),(19,4),(27,131)]),[0,5,6],[],[]⟩ (.exit 0) (llSI_S0 c k p f0 q'2 le'3),.c (.p (blP true)) [],bT,.c (.tup [(.p (blP (rankM (withC c l4) k.toNat == 1))),(.p (intP 0))]) [],bF,bF,bF,bF,bF,bF,bF,bF,.c (.p (blP true)) [],bF,bF,bF,bF,bF,bF,bF,bF,bF,bF,bF,bF,bF,bF,bF,bF,bF,bF,bT,bT,bT,bT,bT,.c (.p (blP (blkM c k.toNat p))) [],bT,bT,bT,bT,bT,.c (.p (blP true)) [],bT,bT,.c (.p (blP true)) [],bT]) (l:=[true=true,FC Tryz.prog 19 [] [] 4 (.p (blP true)) [],true=true,_,_,_,_,_,_,_,_,_,_,_,_,_,_,_,_,_,_,_,_,_,_,_,_,_,_,false=false,false=false,false=false,_,_,_,_,_,_,_,_,_,_,_,FC Tryz.prog 60 [(.p (cupP c)),(.p (intP k)),(.own 3)] [(3,(.row 22 1 [(intsP f0)]))] 4 (.tup [(.p (blP (rankM (withC c l4) k.toNat == 1))),(.p (intP 0))]) [],true=true,_,_,_,_,_,_,_,_,_,_,_,_,_,FC Tryz.prog 60 [(.p (cupP c)),(.p (intP k)),(.own 9)] [(9,(.row 22 1 [(intsP ((worstM c k.toNat).2.2))]))] 10 (.tup [(.p (blP (rankM (withC c l1) k.toNat == 1))),(.p (intP 0))]) [],FC Tryz.prog 45 [(.p (cupP c)),(.own 7)] [(7,(.row 22 1 [(intsP ((worstM c k.toNat).2.2))]))] 8 (.tup [(.p (.agg [(intP ((withC c l1).sk)),(intP ((withC c l1).ra)),(intP ((withC c l1).be)),(intsP ((withC c l1).pts)),(rowsP ((withC c l1).done))])),(.p (intP 0))]) [(7,.dead)],_,_,_,_,_,_,_,_,_,_,_,_,_,_,_,_,_]) (by kernel_rfl) (gc rfl (gc (FV.fc (awake_ok _) rfl) (gc rfl (gc h24 (gc (fk 4 (sam_ok c c h25 h1) rfl) (gc h24 (gc h24 (gc h24 (gc zU25q1 (gc zU25q1 (gc (fk 4 (rbl_ok c k p h2 h5) rfl) (gc zU25q1 (gc zU25q1 (gc zU25q1 (gc zU25q1 (gc zU25q1 (gc (q_ltF h23) (gc (q_ltF h22) (gc (q_ltF h22) (gc (q_ltF h22) (gc (q_ltF h22) (gc (q_ltF h22) (gc (q_neF h21) (gc zU25q0 (gc zU25q0 (gc zU25q0 (gc zU25q2 (gc zU25q2 (gc zU25q2 (gc rfl (gc rfl (gc rfl (gc (q_notF h19) (gc (q_notF h19) (gc (fk 4 (isf_ok f0 c.sk.toNat h20) rfl) (gc (q_notF h19) (gc (q_notF h19) (gc zU25q0 (gc zU25q0 (gc zU25q0 (gc zU25q0 (gc zU25q0 (gc zU25q0 (gc (FV.view (args':=[(.p (cupP c)),(.p (intP k)),(.p (.sl 1 [(intsP f0)]))]) (by rw [show ((.sl 1 [(intsP f0)]):PV)=rowsP l4 from sl_cast h16 h17];exact (rsh_i c k l4 h2 h18)) (by kernel_rfl) (by kernel_rfl) (by kernel_rfl)) (gc rfl (gc (fk 3 (rfu_s c k f0 h6 h3) rfl) (gc hl15.code (gc (q_neF h14) (gc zU25q0 (gc zU25q0 (gc zU25q0 (gc (fk 10 (rrk_ok (withC c l1) k h11 h13) rfl) (gc zU25q0 (gc zU25q0 (gc zU25q0 (gc zU25q0 (gc zU25q0 (gc zU25q0 (gc (FV.view (args':=[(.p (cupP c)),(.p (intP k)),(.p (.sl 1 [(intsP ((worstM c k.toNat).2.2))]))]) (by rw [show ((.sl 1 [(intsP ((worstM c k.toNat).2.2))]):PV)=rowsP l1 from sl_cast h8 h9];exact (rsh_i c k l1 h2 h12)) (by kernel_rfl) (by kernel_rfl) (by kernel_rfl)) (gc (FV.close (ids:=[7]) (args':=[(.p (cupP c)),(.p (.sl 1 [(intsP ((worstM c k.toNat).2.2))]))]) (by rw [show ((.sl 1 [(intsP ((worstM c k.toNat).2.2))]):PV)=rowsP l1 from sl_cast h8 h9];exact (raf_ok c l1 h10 h11)) (by kernel_rfl)) (gc (q_neF h7) (gc zU25q0 (gc zU25q0 (gc (fk 7 (rwt_ok c k h6) rfl) (gc zU25q0 (gc zU25q0 (gc zU25q0 (gc zU25q0 (gc zU25q0 (gc (fk 7 (bls_i c k p h2 h5) rfl) (gc (fk 7 (blo_n c k h2 h4) rfl) (gc (fk 7 (ful_s c k f0 h2 h3) rfl) (gc (fk 7 (wor_i c k h2) rfl) (gc (fk 7 (rla_0 c k h2) rfl) (gc (fk 1 (cln_ok c h1) rfl) (gc h0 (gc (fk 1 (grt_ok c (4:Int)) rfl) gn)))))))))))))))))))))))))))))))))))))))))))))))))))))))))))))))))))))))))))))
theorem llSI_L0_p0{c:Cup}{k p:Int}{f0:List Int}{q le q':Int}(h0:(2:Int)≤q)(h1:LastK c k)(h2:2≤q∧q≤c.sk)(h3:(blkM c k.toNat q)=true)(h4:inR (q-(1:Int)))(eq':q'=(q-(1:Int))):CodeOK Tryz.prog 0 zU25c0 (llSI_S0 c k p f0 q le) .normal (llSI_S0 c k p f0 q' q):=by
  subst eq'
  exact CodeOK.fin (g:=⟨(rng [(0,1),(4,2),(9,4),(19,4),(27,131)]),[0,1,2],[],[]⟩) (o:=[bT,.c (.p (blP (blkM c k.toNat q))) [],bT]) (l:=[_,_,_,_]) (by kernel_rfl) (gc h4 (gc h3 (gc (fk 3 (rbl_ok c k q h1 h2) rfl) (gc (q_le h0) gn))))
theorem llSI_L0_p1{c:Cup}{k p:Int}{f0:List Int}{q le q':Int}(h0:(2:Int)≤q)(h1:LastK c k)(h2:2≤q∧q≤c.sk)(h3:(blkM c k.toNat q)=false)(h4:inR (q-(1:Int)))(eq':q'=(q-(1:Int))):CodeOK Tryz.prog 0 zU25c0 (llSI_S0 c k p f0 q le) .normal (llSI_S0 c k p f0 q' le):=by
  subst eq'
  exact CodeOK.fin (g:=⟨(rng [(0,1),(4,2),(9,4),(19,4),(27,131)]),[0,1,2],[],[]⟩) (o:=[bT,.c (.p (blP (blkM c k.toNat q))) [],bF]) (l:=[_,_,_,_]) (by kernel_rfl) (gc h4 (gc h3 (gc (fk 3 (rbl_ok c k q h1 h2) rfl) (gc (q_le h0) gn))))
theorem llSI_L0_p2{c:Cup}{k p:Int}{f0:List Int}{q le:Int}(h0:q<(2:Int)):CodeOK Tryz.prog 0 zU25c0 (llSI_S0 c k p f0 q le) (.exit 0) (llSI_S0 c k p f0 q le):=by
  exact CodeOK.fin (g:=⟨(rng [(0,1),(4,2),(9,4),(19,4),(27,131)]),[0,1,2],[],[]⟩) (o:=[bF]) (l:=[_]) (by kernel_rfl) (gc (q_leF h0) gn)
def llSO_S0(c:Cup)(k:Int)(p:Int)(f0:List Int)(q:Int)(le:Int):St:=⟨fr 256 [(1,(.p (intP k))),(2,(.p (intP p))),(3,(.ptr 0 0)),(6,(.kb false)),(7,(.ptr 1 0)),(8,(.ptr 2 0)),(13,(.p (intsP f0))),(14,(.p (intP 0))),(15,(.p (intP 0))),(16,(.p (intP 6))),(17,(.p (blP false))),(18,(.p (intP 3))),(23,(.p (intP le))),(24,(.p (intP q)))],[some (.box 25 [(.p (intP c.sk)),(.p (intP c.ra)),(.p (intP c.be)),(.p (intsP c.pts)),(.p (rowsP c.done))]),some (.box 25 [(.p (intP c.sk)),(.p (intP c.ra)),(.p (intP c.be)),(.p (intsP c.pts)),(.p (rowsP c.done))]),some (.box 37 [(.p (intP c.sk)),(.p (intP c.ra)),(.p (intP c.be)),(.p (intsP c.pts)),(.p (rowsP c.done))])]⟩
theorem llSO_p3{c:Cup}{k p:Int}{f0:List Int}{l1:List (List Int)}{q'2 le'3:Int}{l4:List (List Int)}(h0:(grtB c (4:Int))=false)(h1:KL.Small c)(h2:LastK c k)(h3:fullM c k.toNat=some f0)(h4:blockM c k.toNat=none)(h5:p<2∨c.sk<p)(h6:LastK c k∧c.sk≤4)(h7:((worstM c k.toNat).1)=((worstM c k.toNat).1))(h8:1=l1.length)(h9:[(intsP ((worstM c k.toNat).2.2))]=l1.map intsP)(h10:KL.Valid c)(h11:KL.Valid (withC c l1))(h12:FurN c l1)(h13:0≤k∧k<(withC c l1).sk)(h14:(rankM (withC c l1) k.toNat)=((worstM c k.toNat).1))(hl15:LoopOK Tryz.prog 0 zU25c0 (llSO_S0 c k p f0 c.sk (0:Int)) (.exit 0) (llSO_S0 c k p f0 q'2 le'3))(h16:1=l4.length)(h17:[(intsP f0)]=l4.map intsP)(h18:FurN c l4)(h19:(rankM (withC c l4) k.toNat == 1)=true)(h20:Full c.sk.toNat f0∧c.sk.toNat≤100)(h21:le'3=(0:Int))(h22:p<(2:Int))(h23:c=c){base:Nat}:FV Tryz.prog 10 [(.p (cupP c)),(.p (intP k)),(.p (intP p))] base (.p (blP true)) []:=by
  exact FV.fin Tryz.func10 rfl (o:=[.c (.p (blP (grtB c (4:Int)))) [],bF,.c (.p (cupP c)) [],.c (.p (intP 0)) [],.c (.tup [(.p (intP ((worstM c k.toNat).1))),(.p (intsP ((worstM c k.toNat).2.2))),(.p (intP 0))]) [],.c (.tup [(.p (intsP f0)),(.p (intP 0))]) [],.c (.tup [(.p (intP 0)),(.p (intP 6))]) [],.c (.tup [(.p (blP false)),(.p (intP 3))]) [],bF,bF,bF,bF,bF,.c (.p (intP ((worstM c k.toNat).1))) [],bF,bF,bF,.c (.tup [(.p (.agg [(intP ((withC c l1).sk)),(intP ((withC c l1).ra)),(intP ((withC c l1).be)),(intsP ((withC c l1).pts)),(rowsP ((withC c l1).done))])),(.p (intP 0))]) [(7,.dead)],.c (.tup [(.p (blP (rankM (withC c l1) k.toNat == 1))),(.p (intP 0))]) [],bF,bF,bF,bF,bF,bF,.c (.p (intP (rankM (withC c l1) k.toNat))) [],bF,bF,bF,bF,.k 6 ⟨(rng [(0,1),(4,2),(9,4),(19,4),(27,131)]),[0,5,6],[],[]⟩ (.exit 0) (llSO_S0 c k p f0 q'2 le'3),.c (.p (blP true)) [],bT,.c (.tup [(.p (blP (rankM (withC c l4) k.toNat == 1))),(.p (intP 0))]) [],bF,bF,bF,bF,bF,bF,bF,bF,.c (.p (blP true)) [],bF,bF,bF,bF,bF,bF,bF,bF,bF,bF,bF,bF,bT,bT,bT,bT,bT,bT,bT,bT,bT,bT,bT,.c (.p (blP true)) [],bT,bT,.c (.p (blP true)) [],bT]) (l:=[true=true,FC Tryz.prog 19 [] [] 4 (.p (blP true)) [],true=true,true=true,_,true=true,true=true,true=true,_,_,_,_,_,_,_,_,_,_,_,_,_,_,_,false=false,false=false,false=false,_,_,_,_,_,_,_,_,_,_,_,FC Tryz.prog 60 [(.p (cupP c)),(.p (intP k)),(.own 3)] [(3,(.row 22 1 [(intsP f0)]))] 4 (.tup [(.p (blP (rankM (withC c l4) k.toNat == 1))),(.p (intP 0))]) [],true=true,_,_,_,_,_,_,_,_,_,_,_,_,_,FC Tryz.prog 60 [(.p (cupP c)),(.p (intP k)),(.own 9)] [(9,(.row 22 1 [(intsP ((worstM c k.toNat).2.2))]))] 10 (.tup [(.p (blP (rankM (withC c l1) k.toNat == 1))),(.p (intP 0))]) [],FC Tryz.prog 45 [(.p (cupP c)),(.own 7)] [(7,(.row 22 1 [(intsP ((worstM c k.toNat).2.2))]))] 8 (.tup [(.p (.agg [(intP ((withC c l1).sk)),(intP ((withC c l1).ra)),(intP ((withC c l1).be)),(intsP ((withC c l1).pts)),(rowsP ((withC c l1).done))])),(.p (intP 0))]) [(7,.dead)],_,_,_,_,_,_,_,_,_,_,_,_,_,_,_,_,_]) (by kernel_rfl) (gc rfl (gc (FV.fc (awake_ok _) rfl) (gc rfl (gc rfl (gc (fk 4 (sam_ok c c h23 h1) rfl) (gc rfl (gc rfl (gc rfl (gc zU25q3 (gc zU25q3 (gc zU25q3 (gc (q_lt h22) (gc (q_lt h22) (gc (q_lt h22) (gc (q_lt h22) (gc (q_lt h22) (gc (q_neF h21) (gc zU25q0 (gc zU25q0 (gc zU25q0 (gc zU25q2 (gc zU25q2 (gc zU25q2 (gc rfl (gc rfl (gc rfl (gc (q_notF h19) (gc (q_notF h19) (gc (fk 4 (isf_ok f0 c.sk.toNat h20) rfl) (gc (q_notF h19) (gc (q_notF h19) (gc zU25q0 (gc zU25q0 (gc zU25q0 (gc zU25q0 (gc zU25q0 (gc zU25q0 (gc (FV.view (args':=[(.p (cupP c)),(.p (intP k)),(.p (.sl 1 [(intsP f0)]))]) (by rw [show ((.sl 1 [(intsP f0)]):PV)=rowsP l4 from sl_cast h16 h17];exact (rsh_i c k l4 h2 h18)) (by kernel_rfl) (by kernel_rfl) (by kernel_rfl)) (gc rfl (gc (fk 3 (rfu_s c k f0 h6 h3) rfl) (gc hl15.code (gc (q_neF h14) (gc zU25q0 (gc zU25q0 (gc zU25q0 (gc (fk 10 (rrk_ok (withC c l1) k h11 h13) rfl) (gc zU25q0 (gc zU25q0 (gc zU25q0 (gc zU25q0 (gc zU25q0 (gc zU25q0 (gc (FV.view (args':=[(.p (cupP c)),(.p (intP k)),(.p (.sl 1 [(intsP ((worstM c k.toNat).2.2))]))]) (by rw [show ((.sl 1 [(intsP ((worstM c k.toNat).2.2))]):PV)=rowsP l1 from sl_cast h8 h9];exact (rsh_i c k l1 h2 h12)) (by kernel_rfl) (by kernel_rfl) (by kernel_rfl)) (gc (FV.close (ids:=[7]) (args':=[(.p (cupP c)),(.p (.sl 1 [(intsP ((worstM c k.toNat).2.2))]))]) (by rw [show ((.sl 1 [(intsP ((worstM c k.toNat).2.2))]):PV)=rowsP l1 from sl_cast h8 h9];exact (raf_ok c l1 h10 h11)) (by kernel_rfl)) (gc (q_neF h7) (gc zU25q0 (gc zU25q0 (gc (fk 7 (rwt_ok c k h6) rfl) (gc zU25q0 (gc zU25q0 (gc zU25q0 (gc zU25q0 (gc zU25q0 (gc (fk 7 (bls_o c k p h2 h5) rfl) (gc (fk 7 (blo_n c k h2 h4) rfl) (gc (fk 7 (ful_s c k f0 h2 h3) rfl) (gc (fk 7 (wor_i c k h2) rfl) (gc (fk 7 (rla_0 c k h2) rfl) (gc (fk 1 (cln_ok c h1) rfl) (gc h0 (gc (fk 1 (grt_ok c (4:Int)) rfl) gn)))))))))))))))))))))))))))))))))))))))))))))))))))))))))))))))))))))))
theorem llSO_p4{c:Cup}{k p:Int}{f0:List Int}{l1:List (List Int)}{q'2 le'3:Int}{l4:List (List Int)}(h0:(grtB c (4:Int))=false)(h1:KL.Small c)(h2:LastK c k)(h3:fullM c k.toNat=some f0)(h4:blockM c k.toNat=none)(h5:p<2∨c.sk<p)(h6:LastK c k∧c.sk≤4)(h7:((worstM c k.toNat).1)=((worstM c k.toNat).1))(h8:1=l1.length)(h9:[(intsP ((worstM c k.toNat).2.2))]=l1.map intsP)(h10:KL.Valid c)(h11:KL.Valid (withC c l1))(h12:FurN c l1)(h13:0≤k∧k<(withC c l1).sk)(h14:(rankM (withC c l1) k.toNat)=((worstM c k.toNat).1))(hl15:LoopOK Tryz.prog 0 zU25c0 (llSO_S0 c k p f0 c.sk (0:Int)) (.exit 0) (llSO_S0 c k p f0 q'2 le'3))(h16:1=l4.length)(h17:[(intsP f0)]=l4.map intsP)(h18:FurN c l4)(h19:(rankM (withC c l4) k.toNat == 1)=true)(h20:Full c.sk.toNat f0∧c.sk.toNat≤100)(h21:le'3=(0:Int))(h22:(2:Int)≤p)(h23:c.sk<p)(h24:c=c){base:Nat}:FV Tryz.prog 10 [(.p (cupP c)),(.p (intP k)),(.p (intP p))] base (.p (blP true)) []:=by
  exact FV.fin Tryz.func10 rfl (o:=[.c (.p (blP (grtB c (4:Int)))) [],bF,.c (.p (cupP c)) [],.c (.p (intP 0)) [],.c (.tup [(.p (intP ((worstM c k.toNat).1))),(.p (intsP ((worstM c k.toNat).2.2))),(.p (intP 0))]) [],.c (.tup [(.p (intsP f0)),(.p (intP 0))]) [],.c (.tup [(.p (intP 0)),(.p (intP 6))]) [],.c (.tup [(.p (blP false)),(.p (intP 3))]) [],bF,bF,bF,bF,bF,.c (.p (intP ((worstM c k.toNat).1))) [],bF,bF,bF,.c (.tup [(.p (.agg [(intP ((withC c l1).sk)),(intP ((withC c l1).ra)),(intP ((withC c l1).be)),(intsP ((withC c l1).pts)),(rowsP ((withC c l1).done))])),(.p (intP 0))]) [(7,.dead)],.c (.tup [(.p (blP (rankM (withC c l1) k.toNat == 1))),(.p (intP 0))]) [],bF,bF,bF,bF,bF,bF,.c (.p (intP (rankM (withC c l1) k.toNat))) [],bF,bF,bF,bF,.k 6 ⟨(rng [(0,1),(4,2),(9,4),(19,4),(27,131)]),[0,5,6],[],[]⟩ (.exit 0) (llSO_S0 c k p f0 q'2 le'3),.c (.p (blP true)) [],bT,.c (.tup [(.p (blP (rankM (withC c l4) k.toNat == 1))),(.p (intP 0))]) [],bF,bF,bF,bF,bF,bF,bF,bF,.c (.p (blP true)) [],bF,bF,bF,bF,bF,bF,bF,bF,bF,bF,bF,bF,bF,bF,bF,bF,bF,bT,bT,bT,bT,bT,bT,bT,.c (.p (blP true)) [],bT,bT,.c (.p (blP true)) [],bT]) (l:=[true=true,FC Tryz.prog 19 [] [] 4 (.p (blP true)) [],true=true,true=true,_,true=true,true=true,true=true,_,_,_,_,_,_,_,_,_,_,_,_,_,_,_,_,false=false,false=false,false=false,_,_,_,_,_,_,_,_,_,_,_,FC Tryz.prog 60 [(.p (cupP c)),(.p (intP k)),(.own 3)] [(3,(.row 22 1 [(intsP f0)]))] 4 (.tup [(.p (blP (rankM (withC c l4) k.toNat == 1))),(.p (intP 0))]) [],true=true,_,_,_,_,_,_,_,_,_,_,_,_,_,FC Tryz.prog 60 [(.p (cupP c)),(.p (intP k)),(.own 9)] [(9,(.row 22 1 [(intsP ((worstM c k.toNat).2.2))]))] 10 (.tup [(.p (blP (rankM (withC c l1) k.toNat == 1))),(.p (intP 0))]) [],FC Tryz.prog 45 [(.p (cupP c)),(.own 7)] [(7,(.row 22 1 [(intsP ((worstM c k.toNat).2.2))]))] 8 (.tup [(.p (.agg [(intP ((withC c l1).sk)),(intP ((withC c l1).ra)),(intP ((withC c l1).be)),(intsP ((withC c l1).pts)),(rowsP ((withC c l1).done))])),(.p (intP 0))]) [(7,.dead)],_,_,_,_,_,_,_,_,_,_,_,_,_,_,_,_,_]) (by kernel_rfl) (gc rfl (gc (FV.fc (awake_ok _) rfl) (gc rfl (gc rfl (gc (fk 4 (sam_ok c c h24 h1) rfl) (gc rfl (gc rfl (gc rfl (gc zU25q3 (gc zU25q3 (gc zU25q3 (gc (q_lt h23) (gc (q_ltF h22) (gc (q_ltF h22) (gc (q_ltF h22) (gc (q_ltF h22) (gc (q_ltF h22) (gc (q_neF h21) (gc zU25q0 (gc zU25q0 (gc zU25q0 (gc zU25q2 (gc zU25q2 (gc zU25q2 (gc rfl (gc rfl (gc rfl (gc (q_notF h19) (gc (q_notF h19) (gc (fk 4 (isf_ok f0 c.sk.toNat h20) rfl) (gc (q_notF h19) (gc (q_notF h19) (gc zU25q0 (gc zU25q0 (gc zU25q0 (gc zU25q0 (gc zU25q0 (gc zU25q0 (gc (FV.view (args':=[(.p (cupP c)),(.p (intP k)),(.p (.sl 1 [(intsP f0)]))]) (by rw [show ((.sl 1 [(intsP f0)]):PV)=rowsP l4 from sl_cast h16 h17];exact (rsh_i c k l4 h2 h18)) (by kernel_rfl) (by kernel_rfl) (by kernel_rfl)) (gc rfl (gc (fk 3 (rfu_s c k f0 h6 h3) rfl) (gc hl15.code (gc (q_neF h14) (gc zU25q0 (gc zU25q0 (gc zU25q0 (gc (fk 10 (rrk_ok (withC c l1) k h11 h13) rfl) (gc zU25q0 (gc zU25q0 (gc zU25q0 (gc zU25q0 (gc zU25q0 (gc zU25q0 (gc (FV.view (args':=[(.p (cupP c)),(.p (intP k)),(.p (.sl 1 [(intsP ((worstM c k.toNat).2.2))]))]) (by rw [show ((.sl 1 [(intsP ((worstM c k.toNat).2.2))]):PV)=rowsP l1 from sl_cast h8 h9];exact (rsh_i c k l1 h2 h12)) (by kernel_rfl) (by kernel_rfl) (by kernel_rfl)) (gc (FV.close (ids:=[7]) (args':=[(.p (cupP c)),(.p (.sl 1 [(intsP ((worstM c k.toNat).2.2))]))]) (by rw [show ((.sl 1 [(intsP ((worstM c k.toNat).2.2))]):PV)=rowsP l1 from sl_cast h8 h9];exact (raf_ok c l1 h10 h11)) (by kernel_rfl)) (gc (q_neF h7) (gc zU25q0 (gc zU25q0 (gc (fk 7 (rwt_ok c k h6) rfl) (gc zU25q0 (gc zU25q0 (gc zU25q0 (gc zU25q0 (gc zU25q0 (gc (fk 7 (bls_o c k p h2 h5) rfl) (gc (fk 7 (blo_n c k h2 h4) rfl) (gc (fk 7 (ful_s c k f0 h2 h3) rfl) (gc (fk 7 (wor_i c k h2) rfl) (gc (fk 7 (rla_0 c k h2) rfl) (gc (fk 1 (cln_ok c h1) rfl) (gc h0 (gc (fk 1 (grt_ok c (4:Int)) rfl) gn))))))))))))))))))))))))))))))))))))))))))))))))))))))))))))))))))))))))
theorem llSO_L0_p0{c:Cup}{k p:Int}{f0:List Int}{q le q':Int}(h0:(2:Int)≤q)(h1:LastK c k)(h2:2≤q∧q≤c.sk)(h3:(blkM c k.toNat q)=true)(h4:inR (q-(1:Int)))(eq':q'=(q-(1:Int))):CodeOK Tryz.prog 0 zU25c0 (llSO_S0 c k p f0 q le) .normal (llSO_S0 c k p f0 q' q):=by
  subst eq'
  exact CodeOK.fin (g:=⟨(rng [(0,1),(4,2),(9,4),(19,4),(27,131)]),[0,1,2],[],[]⟩) (o:=[bT,.c (.p (blP (blkM c k.toNat q))) [],bT]) (l:=[_,_,_,_]) (by kernel_rfl) (gc h4 (gc h3 (gc (fk 3 (rbl_ok c k q h1 h2) rfl) (gc (q_le h0) gn))))
theorem llSO_L0_p1{c:Cup}{k p:Int}{f0:List Int}{q le q':Int}(h0:(2:Int)≤q)(h1:LastK c k)(h2:2≤q∧q≤c.sk)(h3:(blkM c k.toNat q)=false)(h4:inR (q-(1:Int)))(eq':q'=(q-(1:Int))):CodeOK Tryz.prog 0 zU25c0 (llSO_S0 c k p f0 q le) .normal (llSO_S0 c k p f0 q' le):=by
  subst eq'
  exact CodeOK.fin (g:=⟨(rng [(0,1),(4,2),(9,4),(19,4),(27,131)]),[0,1,2],[],[]⟩) (o:=[bT,.c (.p (blP (blkM c k.toNat q))) [],bF]) (l:=[_,_,_,_]) (by kernel_rfl) (gc h4 (gc h3 (gc (fk 3 (rbl_ok c k q h1 h2) rfl) (gc (q_le h0) gn))))
theorem llSO_L0_p2{c:Cup}{k p:Int}{f0:List Int}{q le:Int}(h0:q<(2:Int)):CodeOK Tryz.prog 0 zU25c0 (llSO_S0 c k p f0 q le) (.exit 0) (llSO_S0 c k p f0 q le):=by
  exact CodeOK.fin (g:=⟨(rng [(0,1),(4,2),(9,4),(19,4),(27,131)]),[0,1,2],[],[]⟩) (o:=[bF]) (l:=[_]) (by kernel_rfl) (gc (q_leF h0) gn)
def llNI_S0(c:Cup)(k:Int)(p:Int)(q0:Int)(q:Int)(le:Int):St:=⟨fr 256 [(1,(.p (intP k))),(2,(.p (intP p))),(3,(.ptr 0 0)),(6,(.kb false)),(7,(.ptr 1 0)),(8,(.ptr 2 0)),(13,(.p nilS)),(14,(.p (intP 6))),(15,(.p (intP q0))),(16,(.p (intP 0))),(17,(.p (blP (blkM c k.toNat p)))),(18,(.p (intP 0))),(23,(.p (intP le))),(24,(.p (intP q)))],[some (.box 25 [(.p (intP c.sk)),(.p (intP c.ra)),(.p (intP c.be)),(.p (intsP c.pts)),(.p (rowsP c.done))]),some (.box 25 [(.p (intP c.sk)),(.p (intP c.ra)),(.p (intP c.be)),(.p (intsP c.pts)),(.p (rowsP c.done))]),some (.box 37 [(.p (intP c.sk)),(.p (intP c.ra)),(.p (intP c.be)),(.p (intsP c.pts)),(.p (rowsP c.done))])]⟩
theorem llNI_p3{c:Cup}{k p q0:Int}{l1:List (List Int)}{q'2 le'3:Int}(h0:(grtB c (4:Int))=false)(h1:KL.Small c)(h2:LastK c k)(h3:fullM c k.toNat=none)(h4:blockM c k.toNat=some q0)(h5:2≤p∧p≤c.sk)(h6:LastK c k∧c.sk≤4)(h7:((worstM c k.toNat).1)=((worstM c k.toNat).1))(h8:1=l1.length)(h9:[(intsP ((worstM c k.toNat).2.2))]=l1.map intsP)(h10:KL.Valid c)(h11:KL.Valid (withC c l1))(h12:FurN c l1)(h13:0≤k∧k<(withC c l1).sk)(h14:(rankM (withC c l1) k.toNat)=((worstM c k.toNat).1))(hl15:LoopOK Tryz.prog 0 zU25c0 (llNI_S0 c k p q0 c.sk (0:Int)) (.exit 0) (llNI_S0 c k p q0 q'2 le'3))(h16:q0=le'3)(h17:le'3≠(0:Int))(h18:(2:Int)≤p)(h19:p≤c.sk)(h20:((blkM c k.toNat p) == (blkM c k.toNat p))=true)(h21:c=c){base:Nat}:FV Tryz.prog 10 [(.p (cupP c)),(.p (intP k)),(.p (intP p))] base (.p (blP true)) []:=by
  exact FV.fin Tryz.func10 rfl (o:=[.c (.p (blP (grtB c (4:Int)))) [],bF,.c (.p (cupP c)) [],.c (.p (intP 0)) [],.c (.tup [(.p (intP ((worstM c k.toNat).1))),(.p (intsP ((worstM c k.toNat).2.2))),(.p (intP 0))]) [],.c (.tup [(.p nilS),(.p (intP 6))]) [],.c (.tup [(.p (intP q0)),(.p (intP 0))]) [],.c (.tup [(.p (blP (blkM c k.toNat p))),(.p (intP 0))]) [],bF,bF,bF,bF,bF,.c (.p (intP ((worstM c k.toNat).1))) [],bF,bF,bF,.c (.tup [(.p (.agg [(intP ((withC c l1).sk)),(intP ((withC c l1).ra)),(intP ((withC c l1).be)),(intsP ((withC c l1).pts)),(rowsP ((withC c l1).done))])),(.p (intP 0))]) [(7,.dead)],.c (.tup [(.p (blP (rankM (withC c l1) k.toNat == 1))),(.p (intP 0))]) [],bF,bF,bF,bF,bF,bF,.c (.p (intP (rankM (withC c l1) k.toNat))) [],bF,bF,bF,bF,.k 6 ⟨(rng [(0,1),(4,2),(9,4),(19,4),(27,131)]),[0,5,6],[],[]⟩ (.exit 0) (llNI_S0 c k p q0 q'2 le'3),.c (.p (blP false)) [],bF,bF,bF,bF,bF,bF,bF,bF,bF,bF,bF,bF,bF,bF,bF,bF,bF,bF,bF,bF,bF,bF,bT,bT,bT,bT,bT,.c (.p (blP (blkM c k.toNat p))) [],bT,bT,bT,bT,bT,.c (.p (blP true)) [],bT,bT,.c (.p (blP true)) [],bT]) (l:=[true=true,FC Tryz.prog 19 [] [] 3 (.p (blP true)) [],true=true,_,_,_,_,_,_,_,_,_,_,_,_,_,_,_,_,_,_,_,_,_,_,_,_,_,_,_,_,_,_,_,_,_,_,false=false,_,_,_,_,_,_,_,_,_,_,_,_,_,FC Tryz.prog 60 [(.p (cupP c)),(.p (intP k)),(.own 9)] [(9,(.row 22 1 [(intsP ((worstM c k.toNat).2.2))]))] 10 (.tup [(.p (blP (rankM (withC c l1) k.toNat == 1))),(.p (intP 0))]) [],FC Tryz.prog 45 [(.p (cupP c)),(.own 7)] [(7,(.row 22 1 [(intsP ((worstM c k.toNat).2.2))]))] 8 (.tup [(.p (.agg [(intP ((withC c l1).sk)),(intP ((withC c l1).ra)),(intP ((withC c l1).be)),(intsP ((withC c l1).pts)),(rowsP ((withC c l1).done))])),(.p (intP 0))]) [(7,.dead)],_,_,_,_,_,_,_,_,_,_,_,_,_,_,_,_,_]) (by kernel_rfl) (gc rfl (gc (FV.fc (awake_ok _) rfl) (gc rfl (gc h20 (gc (fk 3 (sam_ok c c h21 h1) rfl) (gc h20 (gc h20 (gc h20 (gc zU25q1 (gc zU25q1 (gc (fk 3 (rbl_ok c k p h2 h5) rfl) (gc zU25q1 (gc zU25q1 (gc zU25q1 (gc zU25q1 (gc zU25q1 (gc (q_ltF h19) (gc (q_ltF h18) (gc (q_ltF h18) (gc (q_ltF h18) (gc (q_ltF h18) (gc (q_ltF h18) (gc (q_ne h17) (gc (q_neF h16) (gc (q_neF h16) (gc (q_neF h16) (gc zU25q0 (gc zU25q0 (gc zU25q0 (gc zU25q0 (gc zU25q4 (gc zU25q4 (gc zU25q4 (gc zU25q2 (gc zU25q2 (gc zU25q2 (gc zU25q2 (gc rfl (gc (fk 3 (rfu_n c k h6 h3) rfl) (gc hl15.code (gc (q_neF h14) (gc zU25q0 (gc zU25q0 (gc zU25q0 (gc (fk 10 (rrk_ok (withC c l1) k h11 h13) rfl) (gc zU25q0 (gc zU25q0 (gc zU25q0 (gc zU25q0 (gc zU25q0 (gc zU25q0 (gc (FV.view (args':=[(.p (cupP c)),(.p (intP k)),(.p (.sl 1 [(intsP ((worstM c k.toNat).2.2))]))]) (by rw [show ((.sl 1 [(intsP ((worstM c k.toNat).2.2))]):PV)=rowsP l1 from sl_cast h8 h9];exact (rsh_i c k l1 h2 h12)) (by kernel_rfl) (by kernel_rfl) (by kernel_rfl)) (gc (FV.close (ids:=[7]) (args':=[(.p (cupP c)),(.p (.sl 1 [(intsP ((worstM c k.toNat).2.2))]))]) (by rw [show ((.sl 1 [(intsP ((worstM c k.toNat).2.2))]):PV)=rowsP l1 from sl_cast h8 h9];exact (raf_ok c l1 h10 h11)) (by kernel_rfl)) (gc (q_neF h7) (gc zU25q0 (gc zU25q0 (gc (fk 7 (rwt_ok c k h6) rfl) (gc zU25q0 (gc zU25q0 (gc zU25q0 (gc zU25q0 (gc zU25q0 (gc (fk 7 (bls_i c k p h2 h5) rfl) (gc (fk 7 (blo_s c k q0 h2 h4) rfl) (gc (fk 7 (ful_n c k h2 h3) rfl) (gc (fk 7 (wor_i c k h2) rfl) (gc (fk 7 (rla_0 c k h2) rfl) (gc (fk 1 (cln_ok c h1) rfl) (gc h0 (gc (fk 1 (grt_ok c (4:Int)) rfl) gn))))))))))))))))))))))))))))))))))))))))))))))))))))))))))))))))))))))
theorem llNI_L0_p0{c:Cup}{k p q0 q le q':Int}(h0:(2:Int)≤q)(h1:LastK c k)(h2:2≤q∧q≤c.sk)(h3:(blkM c k.toNat q)=true)(h4:inR (q-(1:Int)))(eq':q'=(q-(1:Int))):CodeOK Tryz.prog 0 zU25c0 (llNI_S0 c k p q0 q le) .normal (llNI_S0 c k p q0 q' q):=by
  subst eq'
  exact CodeOK.fin (g:=⟨(rng [(0,1),(4,2),(9,4),(19,4),(27,131)]),[0,1,2],[],[]⟩) (o:=[bT,.c (.p (blP (blkM c k.toNat q))) [],bT]) (l:=[_,_,_,_]) (by kernel_rfl) (gc h4 (gc h3 (gc (fk 3 (rbl_ok c k q h1 h2) rfl) (gc (q_le h0) gn))))
theorem llNI_L0_p1{c:Cup}{k p q0 q le q':Int}(h0:(2:Int)≤q)(h1:LastK c k)(h2:2≤q∧q≤c.sk)(h3:(blkM c k.toNat q)=false)(h4:inR (q-(1:Int)))(eq':q'=(q-(1:Int))):CodeOK Tryz.prog 0 zU25c0 (llNI_S0 c k p q0 q le) .normal (llNI_S0 c k p q0 q' le):=by
  subst eq'
  exact CodeOK.fin (g:=⟨(rng [(0,1),(4,2),(9,4),(19,4),(27,131)]),[0,1,2],[],[]⟩) (o:=[bT,.c (.p (blP (blkM c k.toNat q))) [],bF]) (l:=[_,_,_,_]) (by kernel_rfl) (gc h4 (gc h3 (gc (fk 3 (rbl_ok c k q h1 h2) rfl) (gc (q_le h0) gn))))
theorem llNI_L0_p2{c:Cup}{k p q0 q le:Int}(h0:q<(2:Int)):CodeOK Tryz.prog 0 zU25c0 (llNI_S0 c k p q0 q le) (.exit 0) (llNI_S0 c k p q0 q le):=by
  exact CodeOK.fin (g:=⟨(rng [(0,1),(4,2),(9,4),(19,4),(27,131)]),[0,1,2],[],[]⟩) (o:=[bF]) (l:=[_]) (by kernel_rfl) (gc (q_leF h0) gn)
def llNO_S0(c:Cup)(k:Int)(p:Int)(q0:Int)(q:Int)(le:Int):St:=⟨fr 256 [(1,(.p (intP k))),(2,(.p (intP p))),(3,(.ptr 0 0)),(6,(.kb false)),(7,(.ptr 1 0)),(8,(.ptr 2 0)),(13,(.p nilS)),(14,(.p (intP 6))),(15,(.p (intP q0))),(16,(.p (intP 0))),(17,(.p (blP false))),(18,(.p (intP 3))),(23,(.p (intP le))),(24,(.p (intP q)))],[some (.box 25 [(.p (intP c.sk)),(.p (intP c.ra)),(.p (intP c.be)),(.p (intsP c.pts)),(.p (rowsP c.done))]),some (.box 25 [(.p (intP c.sk)),(.p (intP c.ra)),(.p (intP c.be)),(.p (intsP c.pts)),(.p (rowsP c.done))]),some (.box 37 [(.p (intP c.sk)),(.p (intP c.ra)),(.p (intP c.be)),(.p (intsP c.pts)),(.p (rowsP c.done))])]⟩
theorem llNO_p3{c:Cup}{k p q0:Int}{l1:List (List Int)}{q'2 le'3:Int}(h0:(grtB c (4:Int))=false)(h1:KL.Small c)(h2:LastK c k)(h3:fullM c k.toNat=none)(h4:blockM c k.toNat=some q0)(h5:p<2∨c.sk<p)(h6:LastK c k∧c.sk≤4)(h7:((worstM c k.toNat).1)=((worstM c k.toNat).1))(h8:1=l1.length)(h9:[(intsP ((worstM c k.toNat).2.2))]=l1.map intsP)(h10:KL.Valid c)(h11:KL.Valid (withC c l1))(h12:FurN c l1)(h13:0≤k∧k<(withC c l1).sk)(h14:(rankM (withC c l1) k.toNat)=((worstM c k.toNat).1))(hl15:LoopOK Tryz.prog 0 zU25c0 (llNO_S0 c k p q0 c.sk (0:Int)) (.exit 0) (llNO_S0 c k p q0 q'2 le'3))(h16:q0=le'3)(h17:le'3≠(0:Int))(h18:p<(2:Int))(h19:c=c){base:Nat}:FV Tryz.prog 10 [(.p (cupP c)),(.p (intP k)),(.p (intP p))] base (.p (blP true)) []:=by
  exact FV.fin Tryz.func10 rfl (o:=[.c (.p (blP (grtB c (4:Int)))) [],bF,.c (.p (cupP c)) [],.c (.p (intP 0)) [],.c (.tup [(.p (intP ((worstM c k.toNat).1))),(.p (intsP ((worstM c k.toNat).2.2))),(.p (intP 0))]) [],.c (.tup [(.p nilS),(.p (intP 6))]) [],.c (.tup [(.p (intP q0)),(.p (intP 0))]) [],.c (.tup [(.p (blP false)),(.p (intP 3))]) [],bF,bF,bF,bF,bF,.c (.p (intP ((worstM c k.toNat).1))) [],bF,bF,bF,.c (.tup [(.p (.agg [(intP ((withC c l1).sk)),(intP ((withC c l1).ra)),(intP ((withC c l1).be)),(intsP ((withC c l1).pts)),(rowsP ((withC c l1).done))])),(.p (intP 0))]) [(7,.dead)],.c (.tup [(.p (blP (rankM (withC c l1) k.toNat == 1))),(.p (intP 0))]) [],bF,bF,bF,bF,bF,bF,.c (.p (intP (rankM (withC c l1) k.toNat))) [],bF,bF,bF,bF,.k 6 ⟨(rng [(0,1),(4,2),(9,4),(19,4),(27,131)]),[0,5,6],[],[]⟩ (.exit 0) (llNO_S0 c k p q0 q'2 le'3),.c (.p (blP false)) [],bF,bF,bF,bF,bF,bF,bF,bF,bF,bF,bF,bF,bF,bF,bF,bF,bT,bT,bT,bT,bT,bT,bT,bT,bT,bT,bT,.c (.p (blP true)) [],bT,bT,.c (.p (blP true)) [],bT]) (l:=[true=true,FC Tryz.prog 19 [] [] 3 (.p (blP true)) [],true=true,true=true,_,true=true,true=true,true=true,_,_,_,_,_,_,_,_,_,_,_,_,_,_,_,_,_,_,_,_,_,_,_,false=false,_,_,_,_,_,_,_,_,_,_,_,_,_,FC Tryz.prog 60 [(.p (cupP c)),(.p (intP k)),(.own 9)] [(9,(.row 22 1 [(intsP ((worstM c k.toNat).2.2))]))] 10 (.tup [(.p (blP (rankM (withC c l1) k.toNat == 1))),(.p (intP 0))]) [],FC Tryz.prog 45 [(.p (cupP c)),(.own 7)] [(7,(.row 22 1 [(intsP ((worstM c k.toNat).2.2))]))] 8 (.tup [(.p (.agg [(intP ((withC c l1).sk)),(intP ((withC c l1).ra)),(intP ((withC c l1).be)),(intsP ((withC c l1).pts)),(rowsP ((withC c l1).done))])),(.p (intP 0))]) [(7,.dead)],_,_,_,_,_,_,_,_,_,_,_,_,_,_,_,_,_]) (by kernel_rfl) (gc rfl (gc (FV.fc (awake_ok _) rfl) (gc rfl (gc rfl (gc (fk 3 (sam_ok c c h19 h1) rfl) (gc rfl (gc rfl (gc rfl (gc zU25q3 (gc zU25q3 (gc zU25q3 (gc (q_lt h18) (gc (q_lt h18) (gc (q_lt h18) (gc (q_lt h18) (gc (q_lt h18) (gc (q_ne h17) (gc (q_neF h16) (gc (q_neF h16) (gc (q_neF h16) (gc zU25q0 (gc zU25q0 (gc zU25q0 (gc zU25q0 (gc zU25q4 (gc zU25q4 (gc zU25q4 (gc zU25q2 (gc zU25q2 (gc zU25q2 (gc zU25q2 (gc rfl (gc (fk 3 (rfu_n c k h6 h3) rfl) (gc hl15.code (gc (q_neF h14) (gc zU25q0 (gc zU25q0 (gc zU25q0 (gc (fk 10 (rrk_ok (withC c l1) k h11 h13) rfl) (gc zU25q0 (gc zU25q0 (gc zU25q0 (gc zU25q0 (gc zU25q0 (gc zU25q0 (gc (FV.view (args':=[(.p (cupP c)),(.p (intP k)),(.p (.sl 1 [(intsP ((worstM c k.toNat).2.2))]))]) (by rw [show ((.sl 1 [(intsP ((worstM c k.toNat).2.2))]):PV)=rowsP l1 from sl_cast h8 h9];exact (rsh_i c k l1 h2 h12)) (by kernel_rfl) (by kernel_rfl) (by kernel_rfl)) (gc (FV.close (ids:=[7]) (args':=[(.p (cupP c)),(.p (.sl 1 [(intsP ((worstM c k.toNat).2.2))]))]) (by rw [show ((.sl 1 [(intsP ((worstM c k.toNat).2.2))]):PV)=rowsP l1 from sl_cast h8 h9];exact (raf_ok c l1 h10 h11)) (by kernel_rfl)) (gc (q_neF h7) (gc zU25q0 (gc zU25q0 (gc (fk 7 (rwt_ok c k h6) rfl) (gc zU25q0 (gc zU25q0 (gc zU25q0 (gc zU25q0 (gc zU25q0 (gc (fk 7 (bls_o c k p h2 h5) rfl) (gc (fk 7 (blo_s c k q0 h2 h4) rfl) (gc (fk 7 (ful_n c k h2 h3) rfl) (gc (fk 7 (wor_i c k h2) rfl) (gc (fk 7 (rla_0 c k h2) rfl) (gc (fk 1 (cln_ok c h1) rfl) (gc h0 (gc (fk 1 (grt_ok c (4:Int)) rfl) gn))))))))))))))))))))))))))))))))))))))))))))))))))))))))))))))))
theorem llNO_p4{c:Cup}{k p q0:Int}{l1:List (List Int)}{q'2 le'3:Int}(h0:(grtB c (4:Int))=false)(h1:KL.Small c)(h2:LastK c k)(h3:fullM c k.toNat=none)(h4:blockM c k.toNat=some q0)(h5:p<2∨c.sk<p)(h6:LastK c k∧c.sk≤4)(h7:((worstM c k.toNat).1)=((worstM c k.toNat).1))(h8:1=l1.length)(h9:[(intsP ((worstM c k.toNat).2.2))]=l1.map intsP)(h10:KL.Valid c)(h11:KL.Valid (withC c l1))(h12:FurN c l1)(h13:0≤k∧k<(withC c l1).sk)(h14:(rankM (withC c l1) k.toNat)=((worstM c k.toNat).1))(hl15:LoopOK Tryz.prog 0 zU25c0 (llNO_S0 c k p q0 c.sk (0:Int)) (.exit 0) (llNO_S0 c k p q0 q'2 le'3))(h16:q0=le'3)(h17:le'3≠(0:Int))(h18:(2:Int)≤p)(h19:c.sk<p)(h20:c=c){base:Nat}:FV Tryz.prog 10 [(.p (cupP c)),(.p (intP k)),(.p (intP p))] base (.p (blP true)) []:=by
  exact FV.fin Tryz.func10 rfl (o:=[.c (.p (blP (grtB c (4:Int)))) [],bF,.c (.p (cupP c)) [],.c (.p (intP 0)) [],.c (.tup [(.p (intP ((worstM c k.toNat).1))),(.p (intsP ((worstM c k.toNat).2.2))),(.p (intP 0))]) [],.c (.tup [(.p nilS),(.p (intP 6))]) [],.c (.tup [(.p (intP q0)),(.p (intP 0))]) [],.c (.tup [(.p (blP false)),(.p (intP 3))]) [],bF,bF,bF,bF,bF,.c (.p (intP ((worstM c k.toNat).1))) [],bF,bF,bF,.c (.tup [(.p (.agg [(intP ((withC c l1).sk)),(intP ((withC c l1).ra)),(intP ((withC c l1).be)),(intsP ((withC c l1).pts)),(rowsP ((withC c l1).done))])),(.p (intP 0))]) [(7,.dead)],.c (.tup [(.p (blP (rankM (withC c l1) k.toNat == 1))),(.p (intP 0))]) [],bF,bF,bF,bF,bF,bF,.c (.p (intP (rankM (withC c l1) k.toNat))) [],bF,bF,bF,bF,.k 6 ⟨(rng [(0,1),(4,2),(9,4),(19,4),(27,131)]),[0,5,6],[],[]⟩ (.exit 0) (llNO_S0 c k p q0 q'2 le'3),.c (.p (blP false)) [],bF,bF,bF,bF,bF,bF,bF,bF,bF,bF,bF,bF,bF,bF,bF,bF,bF,bF,bF,bF,bF,bT,bT,bT,bT,bT,bT,bT,.c (.p (blP true)) [],bT,bT,.c (.p (blP true)) [],bT]) (l:=[true=true,FC Tryz.prog 19 [] [] 3 (.p (blP true)) [],true=true,true=true,_,true=true,true=true,true=true,_,_,_,_,_,_,_,_,_,_,_,_,_,_,_,_,_,_,_,_,_,_,_,_,false=false,_,_,_,_,_,_,_,_,_,_,_,_,_,FC Tryz.prog 60 [(.p (cupP c)),(.p (intP k)),(.own 9)] [(9,(.row 22 1 [(intsP ((worstM c k.toNat).2.2))]))] 10 (.tup [(.p (blP (rankM (withC c l1) k.toNat == 1))),(.p (intP 0))]) [],FC Tryz.prog 45 [(.p (cupP c)),(.own 7)] [(7,(.row 22 1 [(intsP ((worstM c k.toNat).2.2))]))] 8 (.tup [(.p (.agg [(intP ((withC c l1).sk)),(intP ((withC c l1).ra)),(intP ((withC c l1).be)),(intsP ((withC c l1).pts)),(rowsP ((withC c l1).done))])),(.p (intP 0))]) [(7,.dead)],_,_,_,_,_,_,_,_,_,_,_,_,_,_,_,_,_]) (by kernel_rfl) (gc rfl (gc (FV.fc (awake_ok _) rfl) (gc rfl (gc rfl (gc (fk 3 (sam_ok c c h20 h1) rfl) (gc rfl (gc rfl (gc rfl (gc zU25q3 (gc zU25q3 (gc zU25q3 (gc (q_lt h19) (gc (q_ltF h18) (gc (q_ltF h18) (gc (q_ltF h18) (gc (q_ltF h18) (gc (q_ltF h18) (gc (q_ne h17) (gc (q_neF h16) (gc (q_neF h16) (gc (q_neF h16) (gc zU25q0 (gc zU25q0 (gc zU25q0 (gc zU25q0 (gc zU25q4 (gc zU25q4 (gc zU25q4 (gc zU25q2 (gc zU25q2 (gc zU25q2 (gc zU25q2 (gc rfl (gc (fk 3 (rfu_n c k h6 h3) rfl) (gc hl15.code (gc (q_neF h14) (gc zU25q0 (gc zU25q0 (gc zU25q0 (gc (fk 10 (rrk_ok (withC c l1) k h11 h13) rfl) (gc zU25q0 (gc zU25q0 (gc zU25q0 (gc zU25q0 (gc zU25q0 (gc zU25q0 (gc (FV.view (args':=[(.p (cupP c)),(.p (intP k)),(.p (.sl 1 [(intsP ((worstM c k.toNat).2.2))]))]) (by rw [show ((.sl 1 [(intsP ((worstM c k.toNat).2.2))]):PV)=rowsP l1 from sl_cast h8 h9];exact (rsh_i c k l1 h2 h12)) (by kernel_rfl) (by kernel_rfl) (by kernel_rfl)) (gc (FV.close (ids:=[7]) (args':=[(.p (cupP c)),(.p (.sl 1 [(intsP ((worstM c k.toNat).2.2))]))]) (by rw [show ((.sl 1 [(intsP ((worstM c k.toNat).2.2))]):PV)=rowsP l1 from sl_cast h8 h9];exact (raf_ok c l1 h10 h11)) (by kernel_rfl)) (gc (q_neF h7) (gc zU25q0 (gc zU25q0 (gc (fk 7 (rwt_ok c k h6) rfl) (gc zU25q0 (gc zU25q0 (gc zU25q0 (gc zU25q0 (gc zU25q0 (gc (fk 7 (bls_o c k p h2 h5) rfl) (gc (fk 7 (blo_s c k q0 h2 h4) rfl) (gc (fk 7 (ful_n c k h2 h3) rfl) (gc (fk 7 (wor_i c k h2) rfl) (gc (fk 7 (rla_0 c k h2) rfl) (gc (fk 1 (cln_ok c h1) rfl) (gc h0 (gc (fk 1 (grt_ok c (4:Int)) rfl) gn)))))))))))))))))))))))))))))))))))))))))))))))))))))))))))))))))
theorem llNO_L0_p0{c:Cup}{k p q0 q le q':Int}(h0:(2:Int)≤q)(h1:LastK c k)(h2:2≤q∧q≤c.sk)(h3:(blkM c k.toNat q)=true)(h4:inR (q-(1:Int)))(eq':q'=(q-(1:Int))):CodeOK Tryz.prog 0 zU25c0 (llNO_S0 c k p q0 q le) .normal (llNO_S0 c k p q0 q' q):=by
  subst eq'
  exact CodeOK.fin (g:=⟨(rng [(0,1),(4,2),(9,4),(19,4),(27,131)]),[0,1,2],[],[]⟩) (o:=[bT,.c (.p (blP (blkM c k.toNat q))) [],bT]) (l:=[_,_,_,_]) (by kernel_rfl) (gc h4 (gc h3 (gc (fk 3 (rbl_ok c k q h1 h2) rfl) (gc (q_le h0) gn))))
theorem llNO_L0_p1{c:Cup}{k p q0 q le q':Int}(h0:(2:Int)≤q)(h1:LastK c k)(h2:2≤q∧q≤c.sk)(h3:(blkM c k.toNat q)=false)(h4:inR (q-(1:Int)))(eq':q'=(q-(1:Int))):CodeOK Tryz.prog 0 zU25c0 (llNO_S0 c k p q0 q le) .normal (llNO_S0 c k p q0 q' le):=by
  subst eq'
  exact CodeOK.fin (g:=⟨(rng [(0,1),(4,2),(9,4),(19,4),(27,131)]),[0,1,2],[],[]⟩) (o:=[bT,.c (.p (blP (blkM c k.toNat q))) [],bF]) (l:=[_,_,_,_]) (by kernel_rfl) (gc h4 (gc h3 (gc (fk 3 (rbl_ok c k q h1 h2) rfl) (gc (q_le h0) gn))))
theorem llNO_L0_p2{c:Cup}{k p q0 q le:Int}(h0:q<(2:Int)):CodeOK Tryz.prog 0 zU25c0 (llNO_S0 c k p q0 q le) (.exit 0) (llNO_S0 c k p q0 q le):=by
  exact CodeOK.fin (g:=⟨(rng [(0,1),(4,2),(9,4),(19,4),(27,131)]),[0,1,2],[],[]⟩) (o:=[bF]) (l:=[_]) (by kernel_rfl) (gc (q_leF h0) gn)
theorem lastK_of{c:Cup}(hS:KL.Small c){k:Int}(e:lastE c k=0):LastK c k:=by
  unfold lastE at e
  by_cases hc:checkP c=0
  · have hV:=(KL.valid_iff c).1 hc
    by_cases hk:0≤k∧k<c.sk
    · have en:=named_in hV hk.1 hk.2
      rw [if_neg (by rw [en];simp)] at e
      refine ⟨hV,hk,?_⟩
      apply Classical.byContradiction
      intro h
      rw [if_pos (by omega)] at e
      omega
    · have en:=named_out hV (k:=k) (by omega)
      rw [if_pos (by rw [en];omega),en] at e
      omega
  · have en:=named_inv k hc
    rw [if_pos (by rw [en];exact hc),en] at e
    exact absurd e hc
def lbM(c:Cup)(s:Nat)(q:Int):Int:=(blockR c s (c.sk-q).toNat (q+1)).getD 0
theorem lbM_top(c:Cup)(s:Nat):lbM c s c.sk=0:=by
  unfold lbM
  rw [Int.sub_self];rfl
theorem lbM_one(c:Cup)(s:Nat):lbM c s 1=(blockM c s).getD 0:=by
  unfold lbM blockM
  rw [show (c.sk-1).toNat=c.sk.toNat-1 by omega];rfl
theorem lbM_step(c:Cup)(s:Nat){q:Int}(hq:q≤c.sk):lbM c s (q-1)=if blkM c s q=true then q else lbM c s q:=by
  unfold lbM
  rw [show (c.sk-(q-1)).toNat=(c.sk-q).toNat+1 by omega,show q-1+1=q by omega]
  conv=>lhs;unfold blockR
  by_cases h:blkM c s q=true <;> simp [h]
theorem llSI_loop{c:Cup}{k p:Int}{f:List Int}(h:LastK c k):∀ (n:Nat) (q:Int),q=(n:Int)+1→q≤c.sk→LoopOK Tryz.prog 0 zU25c0 (llSI_S0 c k p f q (lbM c k.toNat q)) (.exit 0) (llSI_S0 c k p f 1 (lbM c k.toNat 1))
  | 0,q,e,_=>by
    obtain rfl:q=1:=by omega
    exact .exit (llSI_L0_p2 (by omega)) (by simp)
  | n+1,q,e,hq=>by
    have s2:=h.1.sk2
    have hs:=lbM_step c k.toNat hq
    have ih:=llSI_loop (p:=p) (f:=f) h n (q-1) (by omega) (by omega)
    rw [hs] at ih
    cases b:blkM c k.toNat q with
    | true=>rw [b,if_pos rfl] at ih;exact .step (llSI_L0_p0 (by omega) h ⟨by omega,hq⟩ b (by unfold inR;omega) rfl) ih
    | false=>rw [b,if_neg (by simp)] at ih;exact .step (llSI_L0_p1 (by omega) h ⟨by omega,hq⟩ b (by unfold inR;omega) rfl) ih
theorem llSO_loop{c:Cup}{k p:Int}{f:List Int}(h:LastK c k):∀ (n:Nat) (q:Int),q=(n:Int)+1→q≤c.sk→LoopOK Tryz.prog 0 zU25c0 (llSO_S0 c k p f q (lbM c k.toNat q)) (.exit 0) (llSO_S0 c k p f 1 (lbM c k.toNat 1))
  | 0,q,e,_=>by
    obtain rfl:q=1:=by omega
    exact .exit (llSO_L0_p2 (by omega)) (by simp)
  | n+1,q,e,hq=>by
    have s2:=h.1.sk2
    have hs:=lbM_step c k.toNat hq
    have ih:=llSO_loop (p:=p) (f:=f) h n (q-1) (by omega) (by omega)
    rw [hs] at ih
    cases b:blkM c k.toNat q with
    | true=>rw [b,if_pos rfl] at ih;exact .step (llSO_L0_p0 (by omega) h ⟨by omega,hq⟩ b (by unfold inR;omega) rfl) ih
    | false=>rw [b,if_neg (by simp)] at ih;exact .step (llSO_L0_p1 (by omega) h ⟨by omega,hq⟩ b (by unfold inR;omega) rfl) ih
theorem llNI_loop{c:Cup}{k p:Int}{z:Int}(h:LastK c k):∀ (n:Nat) (q:Int),q=(n:Int)+1→q≤c.sk→LoopOK Tryz.prog 0 zU25c0 (llNI_S0 c k p z q (lbM c k.toNat q)) (.exit 0) (llNI_S0 c k p z 1 (lbM c k.toNat 1))
  | 0,q,e,_=>by
    obtain rfl:q=1:=by omega
    exact .exit (llNI_L0_p2 (by omega)) (by simp)
  | n+1,q,e,hq=>by
    have s2:=h.1.sk2
    have hs:=lbM_step c k.toNat hq
    have ih:=llNI_loop (p:=p) (z:=z) h n (q-1) (by omega) (by omega)
    rw [hs] at ih
    cases b:blkM c k.toNat q with
    | true=>rw [b,if_pos rfl] at ih;exact .step (llNI_L0_p0 (by omega) h ⟨by omega,hq⟩ b (by unfold inR;omega) rfl) ih
    | false=>rw [b,if_neg (by simp)] at ih;exact .step (llNI_L0_p1 (by omega) h ⟨by omega,hq⟩ b (by unfold inR;omega) rfl) ih
theorem llNO_loop{c:Cup}{k p:Int}{z:Int}(h:LastK c k):∀ (n:Nat) (q:Int),q=(n:Int)+1→q≤c.sk→LoopOK Tryz.prog 0 zU25c0 (llNO_S0 c k p z q (lbM c k.toNat q)) (.exit 0) (llNO_S0 c k p z 1 (lbM c k.toNat 1))
  | 0,q,e,_=>by
    obtain rfl:q=1:=by omega
    exact .exit (llNO_L0_p2 (by omega)) (by simp)
  | n+1,q,e,hq=>by
    have s2:=h.1.sk2
    have hs:=lbM_step c k.toNat hq
    have ih:=llNO_loop (p:=p) (z:=z) h n (q-1) (by omega) (by omega)
    rw [hs] at ih
    cases b:blkM c k.toNat q with
    | true=>rw [b,if_pos rfl] at ih;exact .step (llNO_L0_p0 (by omega) h ⟨by omega,hq⟩ b (by unfold inR;omega) rfl) ih
    | false=>rw [b,if_neg (by simp)] at ih;exact .step (llNO_L0_p1 (by omega) h ⟨by omega,hq⟩ b (by unfold inR;omega) rfl) ih
theorem lasts_law(c:Cup)(k p:Int){base:Nat}:FV Tryz.prog 10 [.p (cupP c),.p (intP k),.p (intP p)] base (.p (blP true)) []:=by
  cases g:grtB c 4 with
  | true=>exact llG_p0 g
  | false =>
  obtain ⟨hS,_,_,_,h4⟩:=grt_small g
  by_cases e:lastE c k=0
  case neg=>exact llE_p0 g hS e e rfl rfl
  have h:=lastK_of hS e
  have hV:=h.1
  have s1:=hV.sk1
  have s2:=hV.sk2
  have h4:c.sk≤4:=by omega
  have hW:=worst_race h.ok
  have eW:=worst_eq h.ok
  have hU:=furN_one h hW
  have hY:=hW.valid h.ok
  have en:(((c.sk.toNat-1:Nat):Int)+1=c.sk):=by omega
  have hr:0≤k∧k<(withC c [(worstM c k.toNat).2.2]).sk:=h.2.1
  rcases block_cases h.ok with ⟨f,e1,e2⟩ | ⟨e1,q,e2,q1,q2,q3⟩
  · obtain ⟨hF,f1⟩:=full_first h.ok e1
    have hG:=furN_one h (hF.raceN h.ok)
    have e0:lbM c k.toNat 1=0:=by rw [lbM_one,e2];rfl
    have f2:(rankM (withC c [f]) k.toNat == 1)=true:=by rw [f1];rfl
    by_cases hp:2≤p∧p≤c.sk
    · have L:=llSI_loop (p:=p) (f:=f) h (c.sk.toNat-1) c.sk en.symm (by omega)
      rw [lbM_top] at L
      exact llSI_p3 g hS h e1 e2 hp ⟨h,h4⟩ rfl (l1:=[(worstM c k.toNat).2.2]) rfl rfl hV hY hU hr eW L (l4:=[f]) rfl rfl hG f2 ⟨hF,by omega⟩ e0 hp.1 hp.2 (by simp) rfl
    · have L:=llSO_loop (p:=p) (f:=f) h (c.sk.toNat-1) c.sk en.symm (by omega)
      rw [lbM_top] at L
      by_cases h2:p<2
      · exact llSO_p3 g hS h e1 e2 (by omega) ⟨h,h4⟩ rfl (l1:=[(worstM c k.toNat).2.2]) rfl rfl hV hY hU hr eW L (l4:=[f]) rfl rfl hG f2 ⟨hF,by omega⟩ e0 h2 rfl
      · exact llSO_p4 g hS h e1 e2 (by omega) ⟨h,h4⟩ rfl (l1:=[(worstM c k.toNat).2.2]) rfl rfl hV hY hU hr eW L (l4:=[f]) rfl rfl hG f2 ⟨hF,by omega⟩ e0 (by omega) (by omega) rfl
  · have e0:lbM c k.toNat 1=q:=by rw [lbM_one,e2];rfl
    by_cases hp:2≤p∧p≤c.sk
    · have L:=llNI_loop (p:=p) (z:=q) h (c.sk.toNat-1) c.sk en.symm (by omega)
      rw [lbM_top] at L
      exact llNI_p3 g hS h e1 e2 hp ⟨h,h4⟩ rfl (l1:=[(worstM c k.toNat).2.2]) rfl rfl hV hY hU hr eW L e0.symm (by omega) hp.1 hp.2 (by simp) rfl
    · have L:=llNO_loop (p:=p) (z:=q) h (c.sk.toNat-1) c.sk en.symm (by omega)
      rw [lbM_top] at L
      by_cases h2:p<2
      · exact llNO_p3 g hS h e1 e2 (by omega) ⟨h,h4⟩ rfl (l1:=[(worstM c k.toNat).2.2]) rfl rfl hV hY hU hr eW L e0.symm (by omega) h2 rfl
      · exact llNO_p4 g hS h e1 e2 (by omega) ⟨h,h4⟩ rfl (l1:=[(worstM c k.toNat).2.2]) rfl rfl hV hY hU hr eW L e0.symm (by omega) (by omega) (by omega) rfl
end
end KV
end Go.Proofs
