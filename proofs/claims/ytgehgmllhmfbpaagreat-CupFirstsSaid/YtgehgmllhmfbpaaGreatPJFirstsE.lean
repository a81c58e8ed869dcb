/- Parts of the proof of JFirsts: laws of walks, contracts of functions, plain models. No condition. -/
import Derived.Test.YtgehgmllhmfbpaaGreatPJFirstsD
set_option linter.unusedVariables false
set_option linter.unusedSimpArgs false
set_option maxRecDepth 100000
section
namespace Go.Proofs
open KL Go.RowKit
namespace KV

def pos(x:Int):Int:=if 0≤x then x else 0
theorem pos_nn(x:Int):0≤pos x:=by unfold pos;split <;> omega
theorem pos_ge(x:Int):x≤pos x:=by unfold pos;split <;> omega
abbrev ov(t:Int)(l:List Int):Int:=(l.map fun x=>pos (x-t)).sum
theorem ov_nn(t:Int)(l:List Int):0≤ov t l:=sum_nonneg fun x hx=>by
  obtain ⟨y,_,rfl⟩:=List.mem_map.1 hx
  exact pos_nn _
theorem top_le{t:Int}(ht:0≤t):∀ (A:List Int) (k:Nat),(A.take k).sum≤k*t+ov t A
  | A,0=>by have:=ov_nn t A;simp;omega
  | [],k+1=>by
    have:0≤((k+1:Nat):Int)*t:=Int.mul_nonneg (by omega) ht
    simpa [ov] using this
  | x::r,k+1=>by
    have h:=top_le ht r k
    have h2:=pos_ge (x-t)
    have e:((k+1:Nat):Int)*t=k*t+t:=by rw [Int.natCast_add,Int.add_mul];omega
    have e2:ov t (x::r)=pos (x-t)+ov t r:=by unfold ov;rw [List.map_cons,List.sum_cons]
    rw [List.take_succ_cons,List.sum_cons,e,e2]
    omega
theorem ov_low{t:Int}:∀ {l:List Int},(∀ x∈l,x≤t)→ov t l=0
  | [],_=>rfl
  | x::r,h=>by
    have e2:ov t (x::r)=pos (x-t)+ov t r:=by unfold ov;rw [List.map_cons,List.sum_cons]
    rw [e2,ov_low fun y hy=>h y (List.mem_cons_of_mem _ hy)]
    have:=h x (List.mem_cons_self ..)
    unfold pos;split <;> omega
theorem ov_high{t:Int}:∀ {l:List Int},(∀ x∈l,t≤x)→l.sum=l.length*t+ov t l
  | [],_=>by simp [ov]
  | x::r,h=>by
    have e2:ov t (x::r)=pos (x-t)+ov t r:=by unfold ov;rw [List.map_cons,List.sum_cons]
    have e:((r.length+1:Nat):Int)*t=r.length*t+t:=by rw [Int.natCast_add,Int.add_mul];omega
    have:=h x (List.mem_cons_self ..)
    have h3:=ov_high fun y hy=>h y (List.mem_cons_of_mem _ hy)
    have h4:pos (x-t)=x-t:=by unfold pos;rw [if_pos (by omega)]
    rw [List.sum_cons,e2,List.length_cons,e,h4]
    omega
theorem top_eq{A:List Int}(hs:A.Pairwise (fun a b=>b≤a))(h0:∀ x∈A,0≤x)(k:Nat):∃ t:Int,0≤t∧(A.take k).sum=k*t+ov t A:=by
  have hov:∀ t,ov t A=ov t (A.take k)+ov t (A.drop k):=fun t=>by
    unfold ov
    rw [← List.sum_append,← List.map_append,List.take_append_drop]
  rw [← List.take_append_drop k A] at hs
  have hp:=(List.pairwise_append.1 hs)
  cases hd:A.drop k with
  | nil =>
    refine ⟨0,by omega,?_⟩
    rw [hov,hd,Int.mul_zero,ov_high (t:=0) (l:=A.take k) (fun x hx=>h0 x (List.mem_of_mem_take hx)),Int.mul_zero]
    simp [ov]
  | cons y r =>
    have hk:k<A.length:=by
      have h:(A.drop k).length=r.length+1:=by rw [hd];rfl
      rw [List.length_drop] at h;omega
    rw [hd] at hp
    have hy:y∈A:=List.mem_of_mem_drop (i:=k) (by rw [hd];exact List.mem_cons_self ..)
    refine ⟨y,h0 y hy,?_⟩
    rw [hov,hd,ov_high (t:=y) (l:=A.take k) (fun x hx=>hp.2.2 x hx y (List.mem_cons_self ..)),ov_low (t:=y) (l:=y::r),List.length_take,Nat.min_eq_left (by omega)]
    · omega
    · intro x hx
      rcases List.mem_cons.1 hx with rfl | hx
      · exact Int.le_refl _
      · exact (List.pairwise_cons.1 hp.2.1).1 x hx
theorem top_mono{A B:List Int}{k:Nat}(hs:B.Pairwise (fun a b=>b≤a))(h0:∀ x∈B,0≤x)(h:∀ t,0≤t→ov t A≤ov t B):(A.take k).sum≤(B.take k).sum:=by
  obtain ⟨t,ht,e⟩:=top_eq hs h0 k
  have:=top_le ht A k
  have:=h t ht
  omega

abbrev scR(c:Cup)(s:Nat)(r:List Int):Int:=scoreM c.pts r s
abbrev srtS(c:Cup)(s:Nat):List Int:=(srtC c s).map (scF c s)
theorem srtS_pw(c:Cup)(s:Nat):(srtS c s).Pairwise (fun a b=>b≤a):=by
  unfold srtS
  rw [List.pairwise_map]
  exact (srtC_pw c s).imp fun h=>by omega
theorem srtS_perm(c:Cup)(s:Nat):(srtS c s).Perm (c.done.map (scR c s)):=by
  refine ((srtC_perm c s).map _).trans ?_
  have:(KL.idx c.done.length).map (scF c s)=c.done.map (scR c s):=by
    unfold KL.idx
    rw [List.map_map]
    refine List.ext_getElem (by simp) fun i h1 h2 => ?_
    have hi:i<c.done.length:=by simpa using h2
    simp only [List.getElem_map,List.getElem_range,Function.comp]
    show scoreM c.pts (c.done.getD (i:Int).toNat []) s=scoreM c.pts c.done[i] s
    rw [Int.toNat_natCast,List.getD_eq_getElem?_getD,List.getElem?_eq_getElem hi];rfl
  rw [this]
theorem srtS_nn{c:Cup}(hV:KL.Valid c)(s:Nat):∀ x∈srtS c s,0≤x:=fun x hx=>by
  obtain ⟨y,_,rfl⟩:=List.mem_map.1 hx
  exact (scF_bd hV s y).1
theorem total_top(c:Cup)(s:Nat):totalM c s=((srtS c s).take c.be.toNat).sum:=by
  rw [totalM_take]
  have hl:(srtS c s).length=c.done.length:=by rw [(srtS_perm c s).length_eq,List.length_map]
  by_cases h:c.be.toNat≤c.done.length
  · rw [Nat.min_eq_right h]
  · rw [Nat.min_eq_left (by omega),List.take_of_length_le (l:=srtS c s) (by omega),List.take_of_length_le (l:=srtS c s) (by omega)]
theorem ov_srt(c:Cup)(s:Nat)(t:Int):ov t (srtS c s)=ov t (c.done.map (scR c s)):=sum_perm ((srtS_perm c s).map _)
theorem ov_with(c:Cup)(F:List (List Int))(s:Nat)(t:Int):ov t (srtS (withC c F) s)=ov t (c.done.map (scR c s))+ov t (F.map (scR c s)):=by
  rw [ov_srt]
  show ov t ((c.done++F).map (scR c s))=_
  unfold ov
  rw [List.map_append,List.map_append,List.sum_append]
theorem ov_rep{c:Cup}{s:Nat}{x:List Int}(t:Int):∀ {F:List (List Int)},(∀ r∈F,scR c s r≤scR c s x)→ov t (F.map (scR c s))≤ov t ((List.replicate F.length x).map (scR c s))
  | [],_=>Int.le_refl _
  | r::F,h=>by
    have h1:=ov_rep (x:=x) t (F:=F) fun r hr=>h r (List.mem_cons_of_mem _ hr)
    have h2:=h r (List.mem_cons_self ..)
    have h3:pos (scR c s r-t)≤pos (scR c s x-t):=by unfold pos;split <;> split <;> omega
    unfold ov at h1 ⊢
    rw [List.length_cons,List.replicate_succ]
    simp only [List.map_cons,List.sum_cons]
    omega
theorem score_first{c:Cup}(hV:KL.Valid c){s:Nat}(hs:(s:Int)<c.sk)(r:List Int):scR c s r≤scR c s (KL.wonRace c.sk.toNat s):=by
  have h0:∀ x∈c.pts,0≤x:=fun x hx=>(hV.pts x hx).1
  have hf:∀ m:Nat,c.pts.getD m 0≤c.pts.getD 0 0:=fun m=>by
    have:=falls_le hV.falls h0 m 0
    rwa [Nat.zero_add] at this
  have hp0:0≤c.pts.getD 0 0:=by
    rw [List.getD_eq_getElem?_getD]
    cases h:c.pts[0]? with
    | none=>simp
    | some z=>exact h0 z (List.mem_of_getElem? h)
  have hw:scR c s (KL.wonRace c.sk.toNat s)=c.pts.getD 0 0:=by
    have e1:(KL.wonRace c.sk.toNat s).getD s 0=1:=by
      unfold KL.wonRace
      rw [List.getD_eq_getElem?_getD,List.getElem?_set,if_pos rfl,if_pos (by simp;omega)];rfl
    have e2:(KL.wonRace c.sk.toNat s).count 1=1:=by
      unfold KL.wonRace
      rw [List.count_set (by simp;omega)]
      simp [List.count_replicate]
    show scoreM c.pts _ s=_
    unfold scoreM
    rw [e1,e2,if_neg (by omega)]
    unfold KL.worthM
    rw [show ((1:Int).toNat-1)=0 from rfl,List.drop_zero]
    cases hpt:c.pts with
    | nil=>rfl
    | cons a l=>simp
  rw [hw]
  show scoreM c.pts r s≤_
  unfold scoreM
  split
  · exact hp0
  · have hle:∀ l:List Int,(∀ x∈l,x≤c.pts.getD 0 0)→l.sum≤l.length*c.pts.getD 0 0:=by
      intro l hl
      induction l with
      | nil=>simp
      | cons x t ih =>
        have h1:=hl x (List.mem_cons_self ..)
        have h2:=ih fun y hy=>hl y (List.mem_cons_of_mem _ hy)
        rw [List.sum_cons,List.length_cons,Int.natCast_add,Int.add_mul]
        omega
    obtain ⟨m,hm⟩:∃ m,m=r.count (r.getD s 0):=⟨_,rfl⟩
    rw [← hm]
    have h1:=hle ((c.pts.drop ((r.getD s 0).toNat-1)).take m) fun x hx=>by
      obtain ⟨i,hi,rfl⟩:=List.getElem_of_mem (List.mem_of_mem_drop (List.mem_of_mem_take hx))
      have:=hf i
      rwa [List.getD_eq_getElem?_getD,List.getElem?_eq_getElem hi] at this
    have h2:(((c.pts.drop ((r.getD s 0).toNat-1)).take m).length:Int)*c.pts.getD 0 0≤(m:Int)*c.pts.getD 0 0:=Int.mul_le_mul_of_nonneg_right (by have:=List.length_take_le m (c.pts.drop ((r.getD s 0).toNat-1));omega) hp0
    by_cases hm0:m=0
    · subst hm0;simpa using hp0
    · refine Int.ediv_le_of_le_mul (by omega) ?_
      unfold KL.worthM
      rw [Int.mul_comm]
      omega
theorem total_most{c:Cup}(hV:KL.Valid c){F:List (List Int)}{s:Nat}(hs:(s:Int)<c.sk)(hF:(F.length:Int)=c.ra-c.done.length):totalM (withC c F) s≤totalM (withC c (wonM c s)) s:=by
  rw [total_top,total_top]
  refine top_mono (srtS_pw _ _) (srtS_nn (KL.valid_won hV hs) s) fun t ht => ?_
  rw [ov_with,ov_with]
  have h:=ov_rep (c:=c) (s:=s) (x:=KL.wonRace c.sk.toNat s) t (F:=F) fun r _=>score_first hV hs r
  unfold wonM
  rw [show c.ra.toNat-c.done.length=F.length by omega]
  omega
end KV
end Go.Proofs
end
section
namespace Go.Proofs
open KL Go.RowKit
namespace KV

def lexGt(p q:List Int):Prop:=∃ k,1≤k∧k≤60∧q.getD k 0<p.getD k 0∧∀ j,1≤j→j<k→p.getD j 0=q.getD j 0
def lexGe(p q:List Int):Prop:=(∀ j,1≤j→j≤60→p.getD j 0=q.getD j 0)∨lexGt p q
theorem lexFrom_iff(p q:List Int):∀ f i:Nat,KL.lexFrom p q f i=true↔∃ k,i≤k∧k<i+f∧q.getD k 0<p.getD k 0∧∀ j,i≤j→j<k→p.getD j 0=q.getD j 0
  | 0,i=>by
    unfold KL.lexFrom
    constructor
    · intro h;cases h
    · rintro ⟨k,h1,h2,_⟩;omega
  | f+1,i=>by
    unfold KL.lexFrom
    by_cases e:p.getD i 0=q.getD i 0
    · rw [if_pos e,lexFrom_iff p q f (i+1)]
      constructor
      · rintro ⟨k,h1,h2,h3,h4⟩
        refine ⟨k,by omega,by omega,h3,fun j hj hk => ?_⟩
        by_cases ej:j=i
        · rw [ej];exact e
        · exact h4 j (by omega) hk
      · rintro ⟨k,h1,h2,h3,h4⟩
        have:k≠i:=fun ek=>by rw [ek] at h3;omega
        exact ⟨k,by omega,by omega,h3,fun j hj hk=>h4 j (by omega) hk⟩
    · rw [if_neg e]
      constructor
      · intro h
        exact ⟨i,Nat.le_refl _,by omega,of_decide_eq_true h,fun j hj hk=>by omega⟩
      · rintro ⟨k,h1,h2,h3,h4⟩
        by_cases ek:k=i
        · rw [ek] at h3;exact decide_eq_true h3
        · exact absurd (h4 i (Nat.le_refl _) (by omega)) e
theorem lexGt_iff{p q:List Int}:KL.lexFrom p q 60 1=true↔lexGt p q:=by
  rw [lexFrom_iff]
  constructor
  · rintro ⟨k,h1,h2,h3,h4⟩;exact ⟨k,h1,by omega,h3,h4⟩
  · rintro ⟨k,h1,h2,h3,h4⟩;exact ⟨k,h1,by omega,h3,h4⟩
theorem lexGe_gt{p q r:List Int}(h:lexGe p q)(g:lexGt q r):lexGt p r:=by
  obtain ⟨k,k1,k2,k3,k4⟩:=g
  rcases h with h | ⟨i,i1,i2,i3,i4⟩
  · exact ⟨k,k1,k2,by rw [h k k1 k2];exact k3,fun j h1 h2=>by rw [h j h1 (by omega)];exact k4 j h1 h2⟩
  · rcases Nat.lt_trichotomy i k with e | e | e
    · exact ⟨i,i1,i2,by rw [← k4 i i1 e];exact i3,fun j h1 h2=>by rw [i4 j h1 h2];exact k4 j h1 (by omega)⟩
    · subst e
      exact ⟨i,i1,i2,by omega,fun j h1 h2=>by rw [i4 j h1 h2];exact k4 j h1 h2⟩
    · exact ⟨k,k1,k2,by rw [i4 k k1 e];exact k3,fun j h1 h2=>by rw [i4 j h1 (by omega)];exact k4 j h1 h2⟩
theorem lexGt_ge{p q r:List Int}(g:lexGt p q)(h:lexGe q r):lexGt p r:=by
  obtain ⟨k,k1,k2,k3,k4⟩:=g
  rcases h with h | ⟨i,i1,i2,i3,i4⟩
  · exact ⟨k,k1,k2,by rw [← h k k1 k2];exact k3,fun j h1 h2=>by rw [k4 j h1 h2];exact h j h1 (by omega)⟩
  · rcases Nat.lt_trichotomy i k with e | e | e
    · exact ⟨i,i1,i2,by rw [k4 i i1 e];exact i3,fun j h1 h2=>by rw [k4 j h1 (by omega)];exact i4 j h1 h2⟩
    · subst e
      exact ⟨i,i1,i2,by omega,fun j h1 h2=>by rw [k4 j h1 h2];exact i4 j h1 h2⟩
    · exact ⟨k,k1,k2,by rw [← i4 k k1 e];exact k3,fun j h1 h2=>by rw [k4 j h1 h2];exact i4 j h1 (by omega)⟩
theorem lexGe_of{p q:List Int}(h:∀ j,1≤j→j≤60→q.getD j 0≤p.getD j 0):lexGe p q:=by
  have key:∀ n,n≤60→(∀ j,1≤j→j≤n→p.getD j 0=q.getD j 0)∨lexGt p q:=by
    intro n
    induction n with
    | zero=>intro _;exact .inl fun j h1 h2=>by omega
    | succ n ih =>
      intro hn
      rcases ih (by omega) with g | g
      · by_cases e:p.getD (n+1) 0=q.getD (n+1) 0
        · exact .inl fun j h1 h2=>by
            by_cases ej:j=n+1
            · rw [ej];exact e
            · exact g j h1 (by omega)
        · have:=h (n+1) (by omega) hn
          exact .inr ⟨n+1,by omega,hn,by omega,fun j h1 h2=>g j h1 (by omega)⟩
      · exact .inr g
  exact key 60 (Nat.le_refl _)

structure Dom (c1 c2:Cup) (x:Nat):Prop where
  tot:totalM c1 x≤totalM c2 x
  pl:lexGe (placesM c2 x) (placesM c1 x)
theorem betS_iff{c:Cup}{a b:Nat}:betS c a b=true↔totalM c b<totalM c a∨totalM c a=totalM c b∧lexGt (placesM c a) (placesM c b):=by
  unfold betS KL.betterF
  split
  · rename_i e
    rw [lexGt_iff]
    constructor
    · intro h;exact .inr ⟨e,h⟩
    · rintro (h | h)
      · omega
      · exact h.2
  · rename_i e
    rw [decide_eq_true_iff]
    constructor
    · intro h;exact .inl h
    · rintro (h | h)
      · exact h
      · exact absurd h.1 e
theorem betS_dom{c1 c2:Cup}{a b:Nat}(ha:Dom c1 c2 a)(hb:Dom c2 c1 b)(h:betS c1 a b=true):betS c2 a b=true:=by
  have t1:=ha.tot
  have t2:=hb.tot
  rw [betS_iff] at h ⊢
  rcases h with h | ⟨h1,h2⟩
  · exact .inl (by omega)
  · by_cases e:totalM c2 b<totalM c2 a
    · exact .inl e
    · exact .inr ⟨by omega,lexGt_ge (lexGe_gt ha.pl h2) hb.pl⟩

abbrev cntP(F:List (List Int))(s p:Nat):Nat:=F.countP fun r=>decide (r.getD s 0=(p:Int))
theorem places_at{c:Cup}{s p:Nat}(h1:1≤p)(h2:p≤60):(placesM c s).getD p 0=(cntP c.done s p:Int):=by
  unfold placesM KL.placesUpTo
  rw [List.getD_eq_getElem?_getD,List.getElem?_map,List.getElem?_range (by omega)]
  simp only [Option.map_some,Option.getD_some]
  unfold KL.oftenUpTo
  rw [if_neg (by omega),List.take_length]
theorem places_with{c:Cup}{F:List (List Int)}{s p:Nat}(h1:1≤p)(h2:p≤60):(placesM (withC c F) s).getD p 0=(cntP c.done s p:Int)+cntP F s p:=by
  rw [places_at h1 h2]
  show ((c.done++F).countP _:Int)=_
  rw [List.countP_append]
  exact Int.natCast_add ..
theorem wonRace_at{n x o:Nat}(hx:x<n):(KL.wonRace n x).getD o 0=if o=x then 1 else 0:=by
  unfold KL.wonRace
  rw [List.getD_eq_getElem?_getD,List.getElem?_set]
  by_cases e:x=o
  · subst e
    rw [if_pos rfl,if_pos (by simpa using hx),if_pos rfl];rfl
  · rw [if_neg e,if_neg (fun h=>e h.symm),List.getElem?_replicate]
    split <;> rfl
theorem cnt_won{n x o k p:Nat}(hx:x<n)(hp:1≤p):cntP (List.replicate k (KL.wonRace n x)) o p=if o=x∧p=1 then k else 0:=by
  unfold cntP
  rw [List.countP_replicate,wonRace_at hx]
  by_cases e:o=x
  · rw [if_pos e]
    by_cases e2:p=1
    · subst e2;simp [e]
    · rw [if_neg (by simp;omega),if_neg (fun h=>e2 h.2)]
  · rw [if_neg e,if_neg (by simp;omega),if_neg (fun h=>e h.1)]
section
variable {c:Cup} {F:List (List Int)} {x:Nat}
theorem dom_won(hV:KL.Valid c)(hx:(x:Int)<c.sk)(hF:(F.length:Int)=c.ra-c.done.length):Dom (withC c F) (withC c (wonM c x)) x:=by
  have hl:c.ra.toNat-c.done.length=F.length:=by omega
  refine ⟨total_most hV hx hF,?_⟩
  have e2:∀ p,1≤p→p≤60→(placesM (withC c (wonM c x)) x).getD p 0=(cntP c.done x p:Int)+(if p=1 then F.length else 0:Nat):=fun p h1 h2=>by
    rw [places_with h1 h2]
    unfold wonM
    rw [cnt_won (by omega) h1,hl]
    simp
  by_cases e:cntP F x 1=F.length
  · refine .inl fun p h1 h2 => ?_
    rw [e2 p h1 h2,places_with h1 h2]
    by_cases ep:p=1
    · subst ep;rw [if_pos rfl,e]
    · rw [if_neg ep]
      have h3:cntP F x p=0:=by
        refine List.countP_eq_zero.2 fun r hr h => ?_
        have h4:=List.countP_eq_length.1 e r hr
        have h5:=of_decide_eq_true h4
        have h6:=of_decide_eq_true h
        omega
      rw [h3]
  · have hle:cntP F x 1≤F.length:=List.countP_le_length
    refine .inr ⟨1,Nat.le_refl _,by omega,?_,fun j h1 h2=>by omega⟩
    rw [e2 1 (by omega) (by omega),places_with (by omega) (by omega),if_pos rfl]
    omega
theorem dom_other(hV:KL.Valid c)(hV2:KL.Valid (withC c F)){o:Nat}(hx:(x:Int)<c.sk)(ho:o≠x):Dom (withC c (wonM c x)) (withC c F) o:=by
  have hz:scR c o (KL.wonRace c.sk.toNat x)=0:=by
    show scoreM c.pts _ o=0
    unfold scoreM
    rw [if_pos (by rw [wonRace_at (by omega),if_neg ho])]
  refine ⟨?_,lexGe_of fun p h1 h2 => ?_⟩
  · rw [total_top,total_top]
    refine top_mono (srtS_pw _ _) (srtS_nn hV2 o) fun t ht => ?_
    rw [ov_with,ov_with]
    have h3:=ov_nn t (F.map (scR c o))
    have h4:ov t ((wonM c x).map (scR c o))=0:=by
      refine ov_low fun y hy => ?_
      obtain ⟨r,hr,rfl⟩:=List.mem_map.1 hy
      unfold wonM at hr
      rw [List.eq_of_mem_replicate hr,hz]
      exact ht
    omega
  · rw [places_with h1 h2,places_with h1 h2]
    unfold wonM
    rw [cnt_won (by omega) h1,if_neg (fun h=>ho h.1)]
    omega
end
end KV
end Go.Proofs
end
section
namespace Go.Proofs
open KL Go.RowKit
namespace KV

theorem srt_ext{α:Type}{r:α→α→Prop}(has:∀ a b,r a b→¬ r b a):∀ {a b:List α},a.Pairwise r→b.Pairwise r→(∀ x,x∈a↔x∈b)→a=b
  | [],[],_,_,_=>rfl
  | [],y::b,_,_,h=>by have:=(h y).2 (by simp);simp at this
  | x::a,[],_,_,h=>by have:=(h x).1 (by simp);simp at this
  | x::a,y::b,ha,hb,h=>by
    obtain ⟨a1,a2⟩:=List.pairwise_cons.1 ha
    obtain ⟨b1,b2⟩:=List.pairwise_cons.1 hb
    have e:x=y:=by
      rcases List.mem_cons.1 ((h x).1 (by simp)) with e | h1
      · exact e
      · rcases List.mem_cons.1 ((h y).2 (by simp)) with e | h2
        · exact e.symm
        · exact absurd (b1 x h1) (has _ _ (a1 y h2))
    subst e
    rw [srt_ext has a2 b2 fun z => ?_]
    constructor
    · intro hz
      rcases List.mem_cons.1 ((h z).1 (List.mem_cons_of_mem _ hz)) with e | h1
      · subst e;exact absurd (a1 z hz) (has _ _ (a1 z hz))
      · exact h1
    · intro hz
      rcases List.mem_cons.1 ((h z).2 (List.mem_cons_of_mem _ hz)) with e | h1
      · subst e;exact absurd (b1 z hz) (has _ _ (b1 z hz))
      · exact h1

theorem pos_count{α:Type}{r:α→α→Prop}{lt:α→α→Bool}(h1:∀ a b,r a b→lt a b=true)(h2:∀ a b,r a b→lt b a=false)(h3:∀ a,lt a a=false) :
    ∀ (L:List α),L.Pairwise r→∀ (j:Nat) (x:α),L[j]? = some x→L.countP (fun y=>lt y x)=j
  | [],_,j,x,h=>by simp at h
  | y::L,hp,0,x,h=>by
    obtain ⟨p1,p2⟩:=List.pairwise_cons.1 hp
    simp at h
    subst h
    rw [List.countP_eq_zero]
    intro z hz
    rcases List.mem_cons.1 hz with e | hz
    · subst e;simp [h3]
    · simp [h2 _ _ (p1 z hz)]
  | y::L,hp,j+1,x,h=>by
    obtain ⟨p1,p2⟩:=List.pairwise_cons.1 hp
    have hx:L[j]? = some x:=by simpa using h
    rw [List.countP_cons,if_pos (h1 _ _ (p1 x (List.mem_of_getElem? hx))),pos_count h1 h2 h3 L p2 j x hx]

theorem take_count{α:Type}{r:α→α→Prop}{lt:α→α→Bool}(h1:∀ a b,r a b→lt a b=true)(h2:∀ a b,r a b→lt b a=false)(h3:∀ a,lt a a=false)
    {L:List α} (hp:L.Pairwise r) (m:Nat) (x:α):x∈L.take m↔x∈L∧L.countP (fun y=>lt y x)<m:=by
  constructor
  · intro h
    obtain ⟨j,hj⟩:=List.getElem?_of_mem h
    rw [List.getElem?_take] at hj
    split at hj
    · exact ⟨List.mem_of_mem_take h,by rw [pos_count h1 h2 h3 L hp j x hj];assumption⟩
    · cases hj
  · rintro ⟨h,hc⟩
    obtain ⟨j,hj⟩:=List.getElem?_of_mem h
    rw [pos_count h1 h2 h3 L hp j x hj] at hc
    refine List.mem_of_getElem? (i:=j) ?_
    rw [List.getElem?_take,if_pos hc,hj]

def bfB(c:Cup)(s i k:Nat):Bool:=decide (scoreAt c i s<scoreAt c k s) || (decide (scoreAt c k s=scoreAt c i s) && decide (k<i))
def befM(c:Cup)(s i:Nat):Nat:=(List.range c.done.length).countP fun k=>bfB c s i k
def cntdR(c:Cup)(s n:Nat):List Int:=((List.range n).filter fun i=>decide ((befM c s i:Int)<c.be)).map fun i:Nat=>((i:Nat):Int)

theorem befM_lt{c:Cup}{s i:Nat}(h:i<c.done.length):befM c s i<c.done.length:=by
  unfold befM
  have h1:=List.countP_le_length (p:=fun k=>bfB c s i k) (l:=List.range c.done.length)
  rw [List.length_range] at h1
  rcases Nat.lt_or_ge ((List.range c.done.length).countP fun k=>bfB c s i k) c.done.length with h2 | h2
  · exact h2
  · have h3:(List.range c.done.length).countP (fun k=>bfB c s i k)=(List.range c.done.length).length:=by rw [List.length_range];omega
    have:=List.countP_eq_length.1 h3 i (List.mem_range.2 h)
    simp [bfB] at this

theorem cntd_ref(c:Cup)(s:Nat)(hb:0≤c.be):countedL c s=cntdR c s c.done.length:=by
  refine srt_ext (r:=fun a b:Int=>a<b) (fun a b h=>by omega) (cntd_lt c s) ?_ fun x => ?_
  · unfold cntdR
    rw [List.pairwise_map]
    exact ((List.pairwise_lt_range).filter _).imp fun h=>by omega
  · rw [(cntd_perm c s).mem_iff,take_count (lt:=fun y x:Int=>decide (scF c s x<scF c s y) || (decide (scF c s y=scF c s x) && decide (y<x))) ?_ ?_ ?_ (srtC_pw c s),(srtC_perm c s).mem_iff,(srtC_perm c s).countP_eq]
    · unfold cntdR KL.idx
      rw [List.mem_map,List.mem_map,List.countP_map]
      constructor
      · rintro ⟨⟨i,hi,rfl⟩,h2⟩
        have hi':=List.mem_range.1 hi
        have e:(List.range c.done.length).countP ((fun y:Int=>decide (scF c s (i:Int)<scF c s y) || (decide (scF c s y=scF c s (i:Int)) && decide (y<(i:Int)))) ∘ fun i=>((i:Nat):Int))=befM c s i:=by
          unfold befM bfB
          refine List.countP_congr fun k hk => ?_
          simp [scF]
        rw [e] at h2
        exact ⟨i,List.mem_filter.2 ⟨hi,decide_eq_true (by omega)⟩,rfl⟩
      · rintro ⟨i,hi,rfl⟩
        obtain ⟨h1,h2⟩:=List.mem_filter.1 hi
        have hi':=List.mem_range.1 h1
        have h3:=befM_lt (s:=s) hi'
        have h4:=of_decide_eq_true h2
        refine ⟨⟨i,h1,rfl⟩,?_⟩
        have e:(List.range c.done.length).countP ((fun y:Int=>decide (scF c s (i:Int)<scF c s y) || (decide (scF c s y=scF c s (i:Int)) && decide (y<(i:Int)))) ∘ fun i=>((i:Nat):Int))=befM c s i:=by
          unfold befM bfB
          refine List.countP_congr fun k hk => ?_
          simp [scF]
        rw [e]
        omega
    · intro a b h
      simp only [Bool.or_eq_true,Bool.and_eq_true,decide_eq_true_eq]
      omega
    · intro a b h
      rw [Bool.eq_false_iff]
      simp only [ne_eq,Bool.or_eq_true,Bool.and_eq_true,decide_eq_true_eq]
      omega
    · intro a;simp

theorem lex_first{p q:List Int}{i:Nat}(hi:i<60)(h:p.getD (i+1) 0≠q.getD (i+1) 0)(hb:∀ j,j<i→p.getD (j+1) 0=q.getD (j+1) 0):KL.lexFrom p q 60 1=decide (q.getD (i+1) 0<p.getD (i+1) 0):=by
  rw [Bool.eq_iff_iff,lexFrom_iff,decide_eq_true_eq]
  constructor
  · rintro ⟨k,k1,k2,k3,k4⟩
    obtain ⟨k,rfl⟩:∃ k',k=k'+1:=⟨k-1,by omega⟩
    rcases Nat.lt_trichotomy k i with e | e | e
    · have:=hb k e;omega
    · subst e;exact k3
    · exact absurd (k4 (i+1) (by omega) (by omega)) h
  · intro h2
    exact ⟨i+1,by omega,by omega,h2,fun j j1 j2=>by
      obtain ⟨j,rfl⟩:∃ j',j=j'+1:=⟨j-1,by omega⟩
      exact hb j (by omega)⟩
theorem lex_none{p q:List Int}(hb:∀ j,j<60→p.getD (j+1) 0=q.getD (j+1) 0):KL.lexFrom p q 60 1=false:=by
  rw [Bool.eq_false_iff]
  intro h
  obtain ⟨k,k1,k2,k3,_⟩:=(lexFrom_iff p q 60 1).1 h
  have:=hb (k-1) (by omega)
  rw [show k-1+1=k by omega] at this
  omega
theorem betS_self(c:Cup)(s:Nat):betS c s s=false:=by
  unfold betS KL.betterF
  rw [if_pos rfl]
  exact KL.lexFrom_same _ _ _
def bttrUp(c:Cup)(s n:Nat):Int:=1+((List.range n).countP (fun x=>betS c x s):Nat)
theorem rank_ref(c:Cup)(s:Nat):rankM c s=bttrUp c s c.sk.toNat:=by
  unfold rankM bttrUp KL.oth
  rw [List.countP_filter]
  congr 2
  refine List.countP_congr fun x hx => ?_
  by_cases e:x=s
  · subst e;simp [betS_self]
  · simp [e]
def badP(r:List Int)(p:Int):Bool:=decide (p≠0) && (decide (60<p+(r.count p:Int)-1) || r.any fun q=>decide (p<q) && decide (q≤p+(r.count p:Int)-1))
theorem clash_any(r:List Int)(h0:∀ x∈r,0≤x):KL.clashR r=r.any (badP r):=by
  cases e:r.any (badP r) with
  | false =>
    rw [KL.clash_iff r h0]
    intro p hp p0
    have h1:=List.any_eq_false.1 e p hp
    unfold badP at h1
    simp only [ne_eq,p0,not_false_eq_true,decide_true,Bool.true_and,Bool.or_eq_true,decide_eq_true_eq,not_or,Int.not_lt,List.any_eq_true,Bool.and_eq_true,not_exists,not_and] at h1
    obtain ⟨h2,h3⟩:=h1
    refine ⟨by omega,fun q hq hlt => ?_⟩
    have:=h3 q hq hlt
    omega
  | true =>
    obtain ⟨p,hp,h1⟩:=List.any_eq_true.1 e
    cases ec:KL.clashR r with
    | true=>rfl
    | false =>
      have hn:=(KL.clash_iff r h0).1 ec
      unfold badP at h1
      simp only [ne_eq,Bool.and_eq_true,decide_eq_true_eq,Bool.or_eq_true,List.any_eq_true] at h1
      obtain ⟨p0,h2⟩:=h1
      obtain ⟨n1,n2⟩:=hn p hp p0
      rcases h2 with h2 | ⟨q,hq,h3,h4⟩
      · omega
      · have:=n2 q hq h3
        omega
end KV
end Go.Proofs
end
namespace Go.Proofs
namespace KV
section
open KL
noncomputable abbrev zM8c0:Code:=sub (cd Tryz.f138) [1,0,1,0,0]
def agn_S0(c:Cup)(s:Nat)(i:Nat):St:=⟨fr 30 [(1,(.p (intP (s:Int)))),(2,(.ptr 0 0)),(10,(.p (intP c.sk))),(11,(.p (intP (i:Int))))],[some (.box 120 [(.p (intP c.sk)),(.p (intP c.ra)),(.p (intP c.be)),(.p (intsP c.pts)),(.p (rowsP c.done))])]⟩
theorem agn_p0{c:Cup}{s i'0:Nat}(hl0:LoopOK Tryz.prog 0 zM8c0 (agn_S0 c s 0) (.exit 0) (agn_S0 c s i'0)){base:Nat}:FV Tryz.prog 138 [(.p (cupP c)),(.p (intP (s:Int)))] base (.tup [(.p nilS),(.p (blP false))]) []:=by
  exact FV.fin Tryz.func138 rfl (o:=[.k 6 ⟨(rng [(0,1),(3,7),(12,18)]),[0],[],[]⟩ (.exit 0) (agn_S0 c s i'0)]) (l:=[_]) (by kernel_rfl) (gc hl0.code gn)
theorem agn_p1{c:Cup}{s i'0:Nat}(hl0:LoopOK Tryz.prog 0 zM8c0 (agn_S0 c s 0) .ret (setS (agn_S0 c s i'0) [(4,(.p (rowsP (wonM c i'0)))),(5,(.kb true))])){base:Nat}:FV Tryz.prog 138 [(.p (cupP c)),(.p (intP (s:Int)))] base (.tup [(.p (rowsP (wonM c i'0))),(.p (blP true))]) []:=by
  exact FV.fin Tryz.func138 rfl (o:=[.k 6 ⟨(rng [(0,1),(3,7),(12,18)]),[0],[],[]⟩ .ret (setS (agn_S0 c s i'0) [(4,(.p (rowsP (wonM c i'0)))),(5,(.kb true))])]) (l:=[_]) (by kernel_rfl) (gc hl0.code gn)
theorem agn_L0_p0{c:Cup}{s i:Nat}(h0:(i:Int)<c.sk)(h1:KL.Valid c)(h2:((i:Nat):Int)<c.sk)(h3:(i:Int)≠(s:Int))(h4:c.pts.length≤1000)(h5:c.done.length+(wonM c i).length≤1000)(h6:∀ r∈c.done++(wonM c i),r.length≤1000)(h7:KL.Valid (withC c (wonM c i)))(h8:((s:Nat):Int)<(withC c (wonM c i)).sk)(h9:(1:Int)<(rankM (withC c (wonM c i)) s)):CodeOK Tryz.prog 0 zM8c0 (agn_S0 c s i) .ret (setS (agn_S0 c s i) [(4,(.p (rowsP (wonM c i)))),(5,(.kb true))]):=by
  exact CodeOK.fin (g:=⟨(rng [(0,1),(3,1),(6,4),(12,18)]),[0],[],[]⟩) (o:=[bT,.c (.p (rowsP (wonM c i))) [],bT,bT,bT,.c (.p (.agg [(intP ((withC c (wonM c i)).sk)),(intP ((withC c (wonM c i)).ra)),(intP ((withC c (wonM c i)).be)),(intsP ((withC c (wonM c i)).pts)),(rowsP ((withC c (wonM c i)).done))])) [],bT,bT,.c (.p (intP (rankM (withC c (wonM c i)) s))) [],bT,bT,bT]) (l:=[_,_,_,_,_,_,_,_,_,_,_,_]) (by kernel_rfl) (gc (q_lt h9) (gc (q_neT h3) (gc (q_neT h3) (gc (fk 1 (rank_ok (withC c (wonM c i)) h7 s h8) rfl) (gc (q_neT h3) (gc (q_neT h3) (gc (fk 1 (with_ok c (wonM c i) h4 h5 h6) rfl) (gc (q_neT h3) (gc (q_neT h3) (gc (q_neT h3) (gc (fk 1 (won_ok c h1 i h2) rfl) (gc (q_lt h0) gn))))))))))))
theorem agn_L0_p1{c:Cup}{s i i':Nat}(h0:(i:Int)<c.sk)(h1:KL.Valid c)(h2:((i:Nat):Int)<c.sk)(h3:(i:Int)≠(s:Int))(h4:c.pts.length≤1000)(h5:c.done.length+(wonM c i).length≤1000)(h6:∀ r∈c.done++(wonM c i),r.length≤1000)(h7:KL.Valid (withC c (wonM c i)))(h8:((s:Nat):Int)<(withC c (wonM c i)).sk)(h9:(rankM (withC c (wonM c i)) s)≤(1:Int))(h10:inR (((i+1):Nat):Int))(ei':i'=(i+1)):CodeOK Tryz.prog 0 zM8c0 (agn_S0 c s i) .normal (agn_S0 c s i'):=by
  subst ei'
  exact CodeOK.fin (g:=⟨(rng [(0,1),(3,7),(12,18)]),[0],[],[]⟩) (o:=[bT,.c (.p (rowsP (wonM c i))) [],bT,bT,bT,.c (.p (.agg [(intP ((withC c (wonM c i)).sk)),(intP ((withC c (wonM c i)).ra)),(intP ((withC c (wonM c i)).be)),(intsP ((withC c (wonM c i)).pts)),(rowsP ((withC c (wonM c i)).done))])) [],bT,bT,.c (.p (intP (rankM (withC c (wonM c i)) s))) [],bT,bT,bF]) (l:=[_,_,_,_,_,_,_,_,_,_,_,_,_]) (by kernel_rfl) (gc h10 (gc (q_ltF h9) (gc (q_neT h3) (gc (q_neT h3) (gc (fk 1 (rank_ok (withC c (wonM c i)) h7 s h8) rfl) (gc (q_neT h3) (gc (q_neT h3) (gc (fk 1 (with_ok c (wonM c i) h4 h5 h6) rfl) (gc (q_neT h3) (gc (q_neT h3) (gc (q_neT h3) (gc (fk 1 (won_ok c h1 i h2) rfl) (gc (q_lt h0) gn)))))))))))))
theorem agn_L0_p2{c:Cup}{s i i':Nat}(h0:(i:Int)<c.sk)(h1:KL.Valid c)(h2:((i:Nat):Int)<c.sk)(h3:(i:Int)=(s:Int))(h4:inR (((i+1):Nat):Int))(ei':i'=(i+1)):CodeOK Tryz.prog 0 zM8c0 (agn_S0 c s i) .normal (agn_S0 c s i'):=by
  subst ei'
  exact CodeOK.fin (g:=⟨(rng [(0,1),(3,7),(12,18)]),[0],[],[]⟩) (o:=[bT,.c (.p (rowsP (wonM c i))) [],bF,bF,bF,bF,bF,bF,bF]) (l:=[_,_,_,_,_,_,_,_,_,_]) (by kernel_rfl) (gc h4 (gc (q_neF h3) (gc (q_neF h3) (gc (q_neF h3) (gc (q_neF h3) (gc (q_neF h3) (gc (q_neF h3) (gc (q_neF h3) (gc (fk 1 (won_ok c h1 i h2) rfl) (gc (q_lt h0) gn))))))))))
theorem agn_L0_p3{c:Cup}{s i:Nat}(h0:c.sk≤(i:Int)):CodeOK Tryz.prog 0 zM8c0 (agn_S0 c s i) (.exit 0) (agn_S0 c s i):=by
  exact CodeOK.fin (g:=⟨(rng [(0,1),(3,7),(12,18)]),[0],[],[]⟩) (o:=[bF]) (l:=[_]) (by kernel_rfl) (gc (q_ltF h0) gn)
theorem passes_iff{c:Cup}{s k:Nat}:KL.passes c s k=true↔k≠s∧1<rankM (withC c (wonM c k)) s:=by
  unfold KL.passes
  simp
theorem agn_ok(c:Cup)(hV:KL.Valid c)(s:Nat)(hs:(s:Int)<c.sk) :
    (∃ k,k<c.sk.toNat∧KL.passes c s k=true∧∀ base:Nat,FV Tryz.prog 138 [.p (cupP c),.p (intP (s:Int))] base (.tup [.p (rowsP (wonM c k)),.p (blP true)]) []) ∨
    ((∀ k,k<c.sk.toNat→KL.passes c s k=false)∧∀ base:Nat,FV Tryz.prog 138 [.p (cupP c),.p (intP (s:Int))] base (.tup [.p nilS,.p (blP false)]) []):=by
  have s1:=hV.sk1
  have s2:=hV.sk2
  have hW:∀ i:Nat,(i:Int)<c.sk→KL.Valid (withC c (wonM c i)):=fun i hi=>KL.valid_won hV hi
  have p2:=hV.pt2
  have hd:∀ i:Nat,(i:Int)<c.sk→c.done.length+(wonM c i).length≤1000:=fun i hi=>by
    have:=(hW i hi).small.done
    rwa [show (withC c (wonM c i)).done=c.done++wonM c i from rfl,List.length_append] at this
  rcases LoopOK.find (P:=Tryz.prog) (k:=0) (b:=zM8c0) (fun i=>agn_S0 c s i) (fun i _=>setS (agn_S0 c s i) [(4,(.p (rowsP (wonM c i)))),(5,(.kb true))]) (agn_S0 c s c.sk.toNat) .ret (.exit 0) (by simp) (by simp) (fun k=>KL.passes c s k) (List.range c.sk.toNat)
    (fun i x hx hp=>by
      obtain ⟨rfl,hi⟩:=range_at hx
      have hi':(x:Int)<c.sk:=by omega
      by_cases e:x=s
      · exact agn_L0_p2 hi' hV hi' (by omega) (inR_nat (by omega)) rfl
      · have hq:¬ (1<rankM (withC c (wonM c x)) s):=fun h=>by
          rw [passes_iff.2 ⟨e,h⟩] at hp;cases hp
        exact agn_L0_p1 hi' hV hi' (by omega) (by omega) (hd x hi') (hW x hi').small.rows (hW x hi') hs (by omega) (inR_nat (by omega)) rfl)
    (fun i x hx hp=>by
      obtain ⟨rfl,hi⟩:=range_at hx
      have hi':(x:Int)<c.sk:=by omega
      obtain ⟨q1,q2⟩:=passes_iff.1 hp
      exact agn_L0_p0 hi' hV hi' (by omega) (by omega) (hd x hi') (hW x hi').small.rows (hW x hi') hs q2)
    (by rw [List.length_range];exact agn_L0_p3 (by omega)) with ⟨i,x,h1,h2,h3,h4⟩ | ⟨h1,h2,h3⟩
  · obtain ⟨rfl,hi⟩:=range_at h1
    exact .inl ⟨x,hi,h3,fun base=>agn_p1 h4⟩
  · exact .inr ⟨fun k hk=>by
      have:=List.any_eq_false.1 h2 k (List.mem_range.2 hk)
      simpa using this,fun base=>agn_p0 h3⟩
end
end KV
end Go.Proofs
section
namespace Go.Proofs
open KL Go.RowKit
namespace KV

theorem rank_one{c:Cup}{s:Nat}:rankM c s=1↔∀ o,o<c.sk.toNat→betS c o s=false:=by
  rw [rank_ref]
  unfold bttrUp
  constructor
  · intro h o ho
    have h0:(List.range c.sk.toNat).countP (fun x=>betS c x s)=0:=by omega
    have:=List.countP_eq_zero.1 h0 o (List.mem_range.2 ho)
    simpa using this
  · intro h
    have:(List.range c.sk.toNat).countP (fun x=>betS c x s)=0:=List.countP_eq_zero.2 fun o ho=>by
      rw [h o (List.mem_range.1 ho)];simp
    omega
theorem rank_pos(c:Cup)(s:Nat):1≤rankM c s:=by
  rw [rank_ref];unfold bttrUp;omega
theorem canM_iff{c:Cup}{s:Nat}:canM c s=true↔rankM (withC c (wonM c s)) s=1:=by
  unfold canM;simp
theorem sureM_iff{c:Cup}{s:Nat}:sureM c s=true↔∀ k,k<c.sk.toNat→KL.passes c s k=false:=by
  unfold sureM KL.againstM
  have key:∀ f k,(KL.againstAt c s f k).isSome=true↔∃ j,k≤j∧j<k+f∧KL.passes c s j=true:=by
    intro f
    induction f with
    | zero=>intro k;unfold KL.againstAt;simp;intro j h1 h2;omega
    | succ f ih =>
      intro k
      unfold KL.againstAt
      cases e:KL.passes c s k with
      | true=>simp [e];exact ⟨k,by omega,by omega,e⟩
      | false =>
        simp only [e,Bool.false_eq_true,if_false]
        rw [ih (k+1)]
        constructor
        · rintro ⟨j,j1,j2,j3⟩;exact ⟨j,by omega,by omega,j3⟩
        · rintro ⟨j,j1,j2,j3⟩
          refine ⟨j,?_,by omega,j3⟩
          by_cases ej:j=k
          · subst ej;rw [e] at j3;cases j3
          · omega
  have k0:=key c.sk.toNat 0
  cases e:(KL.againstAt c s c.sk.toNat 0).isSome with
  | true =>
    obtain ⟨j,_,j2,j3⟩:=k0.1 e
    simp only [Bool.not_true,Bool.false_eq_true,false_iff]
    intro h
    rw [h j (by omega)] at j3;cases j3
  | false =>
    simp only [Bool.not_false,true_iff]
    intro k hk
    cases e2:KL.passes c s k with
    | false=>rfl
    | true=>rw [k0.2 ⟨k,by omega,by omega,e2⟩] at e;cases e

structure Fur (c:Cup) (F:List (List Int)):Prop where
  len:(F.length:Int)=c.ra-c.done.length
  ok:KL.Valid (withC c F)
theorem fur_won{c:Cup}(hV:KL.Valid c){s:Nat}(hs:(s:Int)<c.sk):Fur c (wonM c s):=by
  refine ⟨?_,KL.valid_won hV hs⟩
  have h1:=hV.dn
  have h2:=hV.ra1
  unfold wonM
  rw [List.length_replicate];omega
section
variable {c:Cup} {F:List (List Int)} {s:Nat}
theorem first_can(hV:KL.Valid c)(hs:(s:Int)<c.sk)(hF:Fur c F)(h:rankM (withC c F) s=1):canM c s=true:=by
  rw [canM_iff,rank_one]
  intro o ho
  have ho':o<c.sk.toNat:=ho
  cases e:betS (withC c (wonM c s)) o s with
  | false=>rfl
  | true =>
    have hne:o≠s:=fun q=>by subst q;rw [betS_self] at e;cases e
    have:=betS_dom (dom_other hV hF.ok hs hne) (dom_won hV hs hF.len) e
    rw [rank_one.1 h o ho'] at this;cases this
theorem sure_first(hV:KL.Valid c)(hs:(s:Int)<c.sk)(hF:Fur c F)(h:sureM c s=true):rankM (withC c F) s=1:=by
  rw [rank_one]
  intro o ho
  have ho':o<c.sk.toNat:=ho
  cases e:betS (withC c F) o s with
  | false=>rfl
  | true =>
    have hne:o≠s:=fun q=>by subst q;rw [betS_self] at e;cases e
    have ho2:(o:Int)<c.sk:=by omega
    have hb:=betS_dom (dom_won hV ho2 hF.len) (dom_other hV hF.ok ho2 (Ne.symm hne)) e
    have hp:=sureM_iff.1 h o ho'
    have hr:¬ 1<rankM (withC c (wonM c o)) s:=fun hr=>by
      rw [passes_iff.2 ⟨hne,hr⟩] at hp;cases hp
    have h1:=rank_pos (withC c (wonM c o)) s
    have h2:rankM (withC c (wonM c o)) s=1:=by omega
    rw [rank_one.1 h2 o ho'] at hb;cases hb
theorem sure_can(hV:KL.Valid c)(hs:(s:Int)<c.sk)(h:sureM c s=true):canM c s=true :=
  first_can hV hs (fur_won hV hs) (sure_first hV hs (fur_won hV hs) h)
theorem first_sure(hV:KL.Valid c)(hs:(s:Int)<c.sk)(h:∀ k:Nat,(k:Int)<c.sk→rankM (withC c (wonM c k)) s=1):sureM c s=true:=by
  rw [sureM_iff]
  intro k hk
  cases e:KL.passes c s k with
  | false=>rfl
  | true =>
    have:=(passes_iff.1 e).2
    rw [h k (by omega)] at this;omega
end
end KV
end Go.Proofs
end
namespace Go.Proofs
namespace KV
section
mutual
def wkP:PV→PV
  | .v (.slice none 0 0) => .sl 0 []
  | .agg cs => .agg (wkPs cs)
  | x=>x
def wkPs:List PV→List PV
  | []=>[]
  | x::r=>wkP x::wkPs r
end
theorem wkPs_map:∀ l:List PV,wkPs l=l.map wkP
  | []=>by simp [wkPs]
  | x::r=>by rw [wkPs,wkPs_map r];rfl
def wk1:AV→AV
  | .p x => .p (wkP x)
  | x=>x
theorem wkP_rep{F:Nat→Prop}{w:World}{x:PV}{u:Value}(h:RepP F w x u):RepP F w (wkP x) u:=by
  induction h with
  | v x =>
    unfold wkP
    split
    · rename_i e
      cases e
      exact .sl 0 [] none 0 (fun _=>undef) (Nat.le_refl _) (Nat.zero_le _) (fun i h=>by simp at h) (fun i h=>by simp at h) (fun i h=>by simp at h)
    · rename_i e;cases e
    · exact .v x
  | sl n cs p cap us h1 h2 h3 h4 h5 _=>unfold wkP;exact .sl n cs p cap us h1 h2 h3 h4 h5
  | agg cs vs h0 h1 _ ih =>
    unfold wkP
    rw [wkPs_map]
    exact .agg _ vs (fun i hi=>h0 i (by simpa using hi)) (by simpa using h1) (fun i hi=>by
      have:=ih i (by simpa using hi)
      simpa using this)
theorem wk1_rep{C:Cx}{M:Mem}{w:World}{x:AV}{u:Value}(h:Rep C M w x u):Rep C M w (wk1 x) u:=by
  cases h with
  | p x u h=>exact .p _ _ (wkP_rep h)
  | _=>unfold wk1;constructor <;> assumption
theorem FMM.wk{P:Program}{f:Nat}{args l l':List AV}{M M':Mem}(h:FMM P f args M (.tup l) M')(e:l.map wk1=l'):FMM P f args M (.tup l') M':=fun C w us hus hM n=>by
  subst e
  refine (h C w us hus hM n).mono ?_
  rintro e w' ⟨u,rfl,C',hF,hM',hr⟩
  refine ⟨u,rfl,C',hF,hM',?_⟩
  cases hr with
  | tup _ vs h1 h2=>exact .tup _ vs (by simpa using h1) (fun i hi=>by
      have hi':i<l.length:=by simpa using hi
      simpa using wk1_rep (h2 i hi'))
theorem RepL.wk{C:Cx}{M:Mem}{w:World}:∀ {args:List AV} {us:List Value},RepL C M w args us→RepL C M w (args.map wk1) us
  | [],_,h=>by cases h;exact .nil
  | x::l,_,h=>by
    cases h with
    | cons _ _ u us h1 h2=>exact .cons _ _ _ _ (wk1_rep h1) h2.wk
theorem FMM.argwk{P:Program}{f:Nat}{args args':List AV}{r:AV}{M M':Mem}(h:FMM P f args' M r M')(e:args.map wk1=args'):FMM P f args M r M':=fun C w us hus hM n=>by
  subst e
  exact h C w us hus.wk hM n
theorem FV.argwk{P:Program}{f base:Nat}{args args':List AV}{y:AV}{L:Upd}(h:FV P f args' base y L)(e:args.map wk1=args'):FV P f args base y L:=by
  obtain ⟨r,M1,h1,h2⟩:=h
  exact ⟨r,M1,h1.argwk e,h2⟩
end
section
open KL
noncomputable abbrev zU2c0:Code:=sub (cd Tryz.f43) [1,1,1,0,1,0,0]
noncomputable abbrev zU2c1:Code:=sub (cd Tryz.f43) [1,1,1,1,1,1,1,0,1,0,0,1,0,0,1,0,0]
noncomputable abbrev zU2c2:Code:=sub (cd Tryz.f43) [1,1,1,1,0,1,0,0]
noncomputable abbrev zU2c3:Code:=sub (cd Tryz.f43) [1,1,1,1,1,1,1,0,1,0,0,1,0,0,1,0,0,1,0,0,1,1,1,1,1,0,0]
noncomputable abbrev zU2c4:Code:=sub (cd Tryz.f43) [1,1,1,1,1,0,1,0,0]
noncomputable abbrev zU2c5:Code:=sub (cd Tryz.f43) [1,1,1,1,1,1,0,1,0,0]
noncomputable abbrev zU2c6:Code:=sub (cd Tryz.f43) [1,1,1,1,1,0,1,0,0,1,0,0,1,0,0]
noncomputable abbrev zU2c7:Code:=sub (cd Tryz.f43) [1,1,1,1,1,1,1,0,1,0,0]
noncomputable abbrev zU2c8:Code:=sub (cd Tryz.f114) [1,1,0,1,0,0]
theorem outs_p0{n a b:Int}(h0:n<a){base:Nat}:FV Tryz.prog 101 [(.p (intP n)),(.p (intP a)),(.p (intP b))] base (.p (blP true)) []:=by
  exact FV.fin Tryz.func101 rfl (o:=[bT,bT,bT,bT]) (l:=[_,_,_,_]) (by kernel_rfl) (gc (q_lt h0) (gc (q_lt h0) (gc (q_lt h0) (gc (q_lt h0) gn))))
theorem outs_p1{n a b:Int}{r0:Bool}(h0:a≤n)(er0:r0=(decide (n > b))){base:Nat}:FV Tryz.prog 101 [(.p (intP n)),(.p (intP a)),(.p (intP b))] base (.p (blP r0)) []:=by
  subst er0
  exact FV.fin Tryz.func101 rfl (o:=[bF,bF,bF,bF]) (l:=[_,_,_,_]) (by kernel_rfl) (gc (q_ltF h0) (gc (q_ltF h0) (gc (q_ltF h0) (gc (q_ltF h0) gn))))
def shr_S0(l:List Int)(p:Int)(i:Nat)(n:Nat):St:=⟨fr 22 [(0,(.p (intsP l))),(1,(.p (intP p))),(4,(.p (intP 0))),(5,(.p (intP (n:Int)))),(6,(.p (intP (i:Int))))],[]⟩
theorem shr_p0{l:List Int}{p:Int}{i'0 n'1:Nat}(hl0:LoopOK Tryz.prog 0 zU2c8 (shr_S0 l p 0 0) (.exit 0) (shr_S0 l p i'0 n'1)){base:Nat}:FV Tryz.prog 114 [(.p (intsP l)),(.p (intP p))] base (.p (intP (n'1:Int))) []:=by
  exact FV.fin Tryz.func114 rfl (o:=[.k 8 ⟨(rng [(2,2),(7,14)]),[],[],[]⟩ (.exit 0) (shr_S0 l p i'0 n'1)]) (l:=[_]) (by kernel_rfl) (gc hl0.code gn)
theorem shr_L0_p0{l:List Int}{p:Int}{i n:Nat}{x100:Int}{i' n':Nat}(h0:(i:Int)<(l.length:Int))(h1:l[i]? = some x100)(h2:x100=p)(h3:inR (((n+1):Nat):Int))(h4:inR (((i+1):Nat):Int))(ei':i'=(i+1))(en':n'=(n+1)):CodeOK Tryz.prog 0 zU2c8 (shr_S0 l p i n) .normal (shr_S0 l p i' n'):=by
  subst ei' en'
  exact CodeOK.fin (g:=⟨(rng [(2,2),(7,14)]),[],[],[]⟩) (o:=[bT,.x (intP x100),bT]) (l:=[_,_,_,_,_,_]) (by kernel_rfl) (gc h4 (gc h3 (gc (q_eq h2) (gc (atm intP h1) (gc (ixn intP h1) (gc (q_lt h0) gn))))))
theorem shr_L0_p1{l:List Int}{p:Int}{i n:Nat}{x100:Int}{i':Nat}(h0:(i:Int)<(l.length:Int))(h1:l[i]? = some x100)(h2:x100≠p)(h3:inR (((i+1):Nat):Int))(ei':i'=(i+1)):CodeOK Tryz.prog 0 zU2c8 (shr_S0 l p i n) .normal (shr_S0 l p i' n):=by
  subst ei'
  exact CodeOK.fin (g:=⟨(rng [(2,2),(7,14)]),[],[],[]⟩) (o:=[bT,.x (intP x100),bF]) (l:=[_,_,_,_,_]) (by kernel_rfl) (gc h3 (gc (q_ne h2) (gc (atm intP h1) (gc (ixn intP h1) (gc (q_lt h0) gn)))))
theorem shr_L0_p2{l:List Int}{p:Int}{i n:Nat}(h0:(l.length:Int)≤(i:Int)):CodeOK Tryz.prog 0 zU2c8 (shr_S0 l p i n) (.exit 0) (shr_S0 l p i n):=by
  exact CodeOK.fin (g:=⟨(rng [(2,2),(7,14)]),[],[],[]⟩) (o:=[bF]) (l:=[_]) (by kernel_rfl) (gc (q_ltF h0) gn)
def outB(n a b:Int):Bool:=decide (n<a) || decide (b<n)
theorem wi_out(n a b:Int):KL.wiB n a b = !outB n a b:=by
  unfold KL.wiB outB
  rw [Bool.eq_iff_iff]
  simp
theorem outs_ok(n a b:Int){base:Nat}:FV Tryz.prog 101 [.p (intP n),.p (intP a),.p (intP b)] base (.p (blP (outB n a b))) []:=by
  by_cases h:n<a
  · have e:outB n a b=true:=by simp [outB,h]
    rw [e];exact outs_p0 h
  · have e:outB n a b=decide (b<n):=by simp [outB,h]
    rw [e];exact outs_p1 (by omega) rfl
theorem shr_ok(l:List Int)(p:Int)(hl:l.length≤1000){base:Nat}:FV Tryz.prog 114 [.p (intsP l),.p (intP p)] base (.p (intP ((l.count p:Nat):Int))) []:=by
  have h:=LoopOK.count (P:=Tryz.prog) (k:=0) (b:=zU2c8) (e := .exit 0) (R:=shr_S0 l p l.length (l.count p)) l.length (fun i=>shr_S0 l p i ((l.take i).count p))
    (fun i hi=>by
      have hb:(l.take i).count p≤1000:=Nat.le_trans List.count_le_length (by simp;omega)
      have hc:=KL.count_snoc l p i hi
      by_cases e:l[i]=p
      · rw [if_pos e] at hc
        exact shr_L0_p0 (by omega) (List.getElem?_eq_getElem hi) e (inR_nat (by omega)) (inR_nat (by omega)) rfl hc
      · rw [if_neg e] at hc
        exact by
          rw [show (l.take (i+1)).count p=(l.take i).count p from hc]
          exact shr_L0_p1 (by omega) (List.getElem?_eq_getElem hi) e (inR_nat (by omega)) rfl)
    (by rw [List.take_length];exact shr_L0_p2 (by omega)) (by simp)
  exact shr_p0 h
def chk_S0(c:Cup)(i:Nat):St:=⟨fr 174 [(1,(.ptr 0 0)),(3,(.p (intP (i:Int))))],[some (.box 37 [(.p (intP c.sk)),(.p (intP c.ra)),(.p (intP c.be)),(.p (intsP c.pts)),(.p (rowsP c.done))])]⟩
def chk_S1(c:Cup)(i:Nat):St:=⟨fr 174 [(1,(.ptr 0 0)),(4,(.p (intP (i:Int))))],[some (.box 37 [(.p (intP c.sk)),(.p (intP c.ra)),(.p (intP c.be)),(.p (intsP c.pts)),(.p (rowsP c.done))])]⟩
def chk_S2(c:Cup)(i:Nat):St:=⟨fr 174 [(1,(.ptr 0 0)),(5,(.p (intP (i:Int))))],[some (.box 37 [(.p (intP c.sk)),(.p (intP c.ra)),(.p (intP c.be)),(.p (intsP c.pts)),(.p (rowsP c.done))])]⟩
def chk_S4(c:Cup)(i:Nat):St:=⟨fr 174 [(1,(.ptr 0 0)),(7,(.p (intP (i:Int))))],[some (.box 37 [(.p (intP c.sk)),(.p (intP c.ra)),(.p (intP c.be)),(.p (intsP c.pts)),(.p (rowsP c.done))])]⟩
def chk_S5(c:Cup)(i:Nat):St:=⟨fr 174 [(1,(.ptr 0 0)),(8,(.p (intP (i:Int))))],[some (.box 37 [(.p (intP c.sk)),(.p (intP c.ra)),(.p (intP c.be)),(.p (intsP c.pts)),(.p (rowsP c.done))])]⟩
theorem chk_p0{c:Cup}(h0:(outB c.sk (1:Int) (12:Int))=true){base:Nat}:FV Tryz.prog 43 [(.p (cupP c))] base (.p (intP 3)) []:=by
  exact FV.fin Tryz.func43 rfl (o:=[.c (.p (blP (outB c.sk (1:Int) (12:Int)))) [],bT,bT,bT,bT]) (l:=[_,_,_,_,_]) (by kernel_rfl) (gc h0 (gc h0 (gc h0 (gc h0 (gc (fk 1 (outs_ok c.sk (1:Int) (12:Int)) rfl) gn)))))
theorem chk_p1{c:Cup}(h0:(outB c.sk (1:Int) (12:Int))=false)(h1:(outB c.ra (1:Int) (20:Int))=true){base:Nat}:FV Tryz.prog 43 [(.p (cupP c))] base (.p (intP 3)) []:=by
  exact FV.fin Tryz.func43 rfl (o:=[.c (.p (blP (outB c.sk (1:Int) (12:Int)))) [],bF,bF,bF,.c (.p (blP (outB c.ra (1:Int) (20:Int)))) [],bF,bT,bT,bT,bT,bT,bT]) (l:=[_,_,_,_,_,_,_,_,_,_,_,_]) (by kernel_rfl) (gc h1 (gc h1 (gc h1 (gc h1 (gc h1 (gc h1 (gc h0 (gc (fk 1 (outs_ok c.ra (1:Int) (20:Int)) rfl) (gc h0 (gc h0 (gc h0 (gc (fk 1 (outs_ok c.sk (1:Int) (12:Int)) rfl) gn))))))))))))
theorem chk_p2{c:Cup}(h0:(outB c.sk (1:Int) (12:Int))=false)(h1:(outB c.ra (1:Int) (20:Int))=false)(h2:(outB c.be (1:Int) c.ra)=true){base:Nat}:FV Tryz.prog 43 [(.p (cupP c))] base (.p (intP 3)) []:=by
  exact FV.fin Tryz.func43 rfl (o:=[.c (.p (blP (outB c.sk (1:Int) (12:Int)))) [],bF,bF,bF,.c (.p (blP (outB c.ra (1:Int) (20:Int)))) [],bF,bF,bF,bF,bF,bF,.c (.p (blP (outB c.be (1:Int) c.ra))) [],bF,bT]) (l:=[_,_,_,_,_,_,_,_,_,_,_,_,_,_]) (by kernel_rfl) (gc h2 (gc h1 (gc (fk 1 (outs_ok c.be (1:Int) c.ra) rfl) (gc h1 (gc h1 (gc h1 (gc h1 (gc h1 (gc h0 (gc (fk 1 (outs_ok c.ra (1:Int) (20:Int)) rfl) (gc h0 (gc h0 (gc h0 (gc (fk 1 (outs_ok c.sk (1:Int) (12:Int)) rfl) gn))))))))))))))
theorem chk_p3{c:Cup}(h0:(outB c.sk (1:Int) (12:Int))=false)(h1:(outB c.ra (1:Int) (20:Int))=false)(h2:(outB c.be (1:Int) c.ra)=false)(h3:(c.pts.length:Int)<(1:Int)){base:Nat}:FV Tryz.prog 43 [(.p (cupP c))] base (.p (intP 2)) []:=by
  exact FV.fin Tryz.func43 rfl (o:=[.c (.p (blP (outB c.sk (1:Int) (12:Int)))) [],bF,bF,bF,.c (.p (blP (outB c.ra (1:Int) (20:Int)))) [],bF,bF,bF,bF,bF,bF,.c (.p (blP (outB c.be (1:Int) c.ra))) [],bF,bF,bT,bT,bT,bT,bT]) (l:=[_,_,_,_,_,_,_,_,_,_,_,_,_,_,_,_,_,_,_]) (by kernel_rfl) (gc (q_lt h3) (gc (q_lt h3) (gc (q_lt h3) (gc (q_lt h3) (gc (q_lt h3) (gc h2 (gc h1 (gc (fk 1 (outs_ok c.be (1:Int) c.ra) rfl) (gc h1 (gc h1 (gc h1 (gc h1 (gc h1 (gc h0 (gc (fk 1 (outs_ok c.ra (1:Int) (20:Int)) rfl) (gc h0 (gc h0 (gc h0 (gc (fk 1 (outs_ok c.sk (1:Int) (12:Int)) rfl) gn)))))))))))))))))))
theorem chk_p4{c:Cup}(h0:(outB c.sk (1:Int) (12:Int))=false)(h1:(outB c.ra (1:Int) (20:Int))=false)(h2:(outB c.be (1:Int) c.ra)=false)(h3:(1:Int)≤(c.pts.length:Int))(h4:(60:Int)<(c.pts.length:Int)){base:Nat}:FV Tryz.prog 43 [(.p (cupP c))] base (.p (intP 2)) []:=by
  exact FV.fin Tryz.func43 rfl (o:=[.c (.p (blP (outB c.sk (1:Int) (12:Int)))) [],bF,bF,bF,.c (.p (blP (outB c.ra (1:Int) (20:Int)))) [],bF,bF,bF,bF,bF,bF,.c (.p (blP (outB c.be (1:Int) c.ra))) [],bF,bF,bF,bF,bF,bF,bF,bT,bT,bT,bT,bT,bT,bT]) (l:=[_,_,_,_,_,_,_,_,_,_,_,_,_,_,_,_,_,_,_,_,_,_,_,_,_,_]) (by kernel_rfl) (gc (q_lt h4) (gc (q_lt h4) (gc (q_lt h4) (gc (q_lt h4) (gc (q_lt h4) (gc (q_lt h4) (gc (q_lt h4) (gc (q_ltF h3) (gc (q_ltF h3) (gc (q_ltF h3) (gc (q_ltF h3) (gc (q_ltF h3) (gc h2 (gc h1 (gc (fk 1 (outs_ok c.be (1:Int) c.ra) rfl) (gc h1 (gc h1 (gc h1 (gc h1 (gc h1 (gc h0 (gc (fk 1 (outs_ok c.ra (1:Int) (20:Int)) rfl) (gc h0 (gc h0 (gc h0 (gc (fk 1 (outs_ok c.sk (1:Int) (12:Int)) rfl) gn))))))))))))))))))))))))))
theorem chk_p5{c:Cup}(h0:(outB c.sk (1:Int) (12:Int))=false)(h1:(outB c.ra (1:Int) (20:Int))=false)(h2:(outB c.be (1:Int) c.ra)=false)(h3:(1:Int)≤(c.pts.length:Int))(h4:(c.pts.length:Int)≤(60:Int))(h5:c.ra<(c.done.length:Int)){base:Nat}:FV Tryz.prog 43 [(.p (cupP c))] base (.p (intP 2)) []:=by
  exact FV.fin Tryz.func43 rfl (o:=[.c (.p (blP (outB c.sk (1:Int) (12:Int)))) [],bF,bF,bF,.c (.p (blP (outB c.ra (1:Int) (20:Int)))) [],bF,bF,bF,bF,bF,bF,.c (.p (blP (outB c.be (1:Int) c.ra))) [],bF,bF,bF,bF,bF,bF,bF,bF,bF,bF,bF,bF,bF,bF,bT]) (l:=[_,_,_,_,_,_,_,_,_,_,_,_,_,_,_,_,_,_,_,_,_,_,_,_,_,_,_]) (by kernel_rfl) (gc (q_lt h5) (gc (q_ltF h4) (gc (q_ltF h4) (gc (q_ltF h4) (gc (q_ltF h4) (gc (q_ltF h4) (gc (q_ltF h4) (gc (q_ltF h4) (gc (q_ltF h3) (gc (q_ltF h3) (gc (q_ltF h3) (gc (q_ltF h3) (gc (q_ltF h3) (gc h2 (gc h1 (gc (fk 1 (outs_ok c.be (1:Int) c.ra) rfl) (gc h1 (gc h1 (gc h1 (gc h1 (gc h1 (gc h0 (gc (fk 1 (outs_ok c.ra (1:Int) (20:Int)) rfl) (gc h0 (gc h0 (gc h0 (gc (fk 1 (outs_ok c.sk (1:Int) (12:Int)) rfl) gn)))))))))))))))))))))))))))
theorem chk_p6{c:Cup}{i'0 i'1 i'2 i'3 i'4:Nat}(h0:(outB c.sk (1:Int) (12:Int))=false)(h1:(outB c.ra (1:Int) (20:Int))=false)(h2:(outB c.be (1:Int) c.ra)=false)(h3:(1:Int)≤(c.pts.length:Int))(h4:(c.pts.length:Int)≤(60:Int))(h5:(c.done.length:Int)≤c.ra)(hl6:LoopOK Tryz.prog 0 zU2c0 (chk_S0 c 0) (.exit 0) (chk_S0 c i'0))(hl7:LoopOK Tryz.prog 0 zU2c2 (chk_S1 c 0) (.exit 2) (chk_S1 c i'1))(hl8:LoopOK Tryz.prog 0 zU2c4 (chk_S2 c 0) (.exit 4) (chk_S2 c i'2))(hl9:LoopOK Tryz.prog 0 zU2c5 (chk_S4 c 1) (.exit 8) (chk_S4 c i'3))(hl10:LoopOK Tryz.prog 0 zU2c7 (chk_S5 c 0) (.exit 10) (chk_S5 c i'4)){base:Nat}:FV Tryz.prog 43 [(.p (cupP c))] base (.p (intP 0)) []:=by
  exact FV.fin Tryz.func43 rfl (o:=[.c (.p (blP (outB c.sk (1:Int) (12:Int)))) [],bF,bF,bF,.c (.p (blP (outB c.ra (1:Int) (20:Int)))) [],bF,bF,bF,bF,bF,bF,.c (.p (blP (outB c.be (1:Int) c.ra))) [],bF,bF,bF,bF,bF,bF,bF,bF,bF,bF,bF,bF,bF,bF,bF,.k 4 ⟨(rng [(0,1),(2,1),(14,49)]),[0],[],[]⟩ (.exit 0) (chk_S0 c i'0),.k 4 ⟨(rng [(0,1),(2,2),(14,62)]),[0],[],[]⟩ (.exit 2) (chk_S1 c i'1),.k 4 ⟨(rng [(0,1),(2,3),(6,1),(14,84)]),[0],[],[]⟩ (.exit 4) (chk_S2 c i'2),.k 4 ⟨(rng [(0,1),(2,5),(14,103)]),[0],[],[]⟩ (.exit 8) (chk_S4 c i'3),.k 4 ⟨(rng [(0,1),(2,6),(9,165)]),[0],[],[]⟩ (.exit 10) (chk_S5 c i'4)]) (l:=[_,_,_,_,_,_,_,_,_,_,_,_,_,_,_,_,_,_,_,_,_,_,_,_,_,_,_,_,_,_,_,_]) (by kernel_rfl) (gc hl10.code (gc hl9.code (gc hl8.code (gc hl7.code (gc hl6.code (gc (q_ltF h5) (gc (q_ltF h4) (gc (q_ltF h4) (gc (q_ltF h4) (gc (q_ltF h4) (gc (q_ltF h4) (gc (q_ltF h4) (gc (q_ltF h4) (gc (q_ltF h3) (gc (q_ltF h3) (gc (q_ltF h3) (gc (q_ltF h3) (gc (q_ltF h3) (gc h2 (gc h1 (gc (fk 1 (outs_ok c.be (1:Int) c.ra) rfl) (gc h1 (gc h1 (gc h1 (gc h1 (gc h1 (gc h0 (gc (fk 1 (outs_ok c.ra (1:Int) (20:Int)) rfl) (gc h0 (gc h0 (gc h0 (gc (fk 1 (outs_ok c.sk (1:Int) (12:Int)) rfl) gn))))))))))))))))))))))))))))))))
theorem chk_p7{c:Cup}{i'0 i'1 i'2 i'3 i'4:Nat}(h0:(outB c.sk (1:Int) (12:Int))=false)(h1:(outB c.ra (1:Int) (20:Int))=false)(h2:(outB c.be (1:Int) c.ra)=false)(h3:(1:Int)≤(c.pts.length:Int))(h4:(c.pts.length:Int)≤(60:Int))(h5:(c.done.length:Int)≤c.ra)(hl6:LoopOK Tryz.prog 0 zU2c0 (chk_S0 c 0) (.exit 0) (chk_S0 c i'0))(hl7:LoopOK Tryz.prog 0 zU2c2 (chk_S1 c 0) (.exit 2) (chk_S1 c i'1))(hl8:LoopOK Tryz.prog 0 zU2c4 (chk_S2 c 0) (.exit 4) (chk_S2 c i'2))(hl9:LoopOK Tryz.prog 0 zU2c5 (chk_S4 c 1) (.exit 8) (chk_S4 c i'3))(hl10:LoopOK Tryz.prog 0 zU2c7 (chk_S5 c 0) .ret (setS (chk_S5 c i'4) [(2,(.p (intP 7)))])){base:Nat}:FV Tryz.prog 43 [(.p (cupP c))] base (.p (intP 7)) []:=by
  exact FV.fin Tryz.func43 rfl (o:=[.c (.p (blP (outB c.sk (1:Int) (12:Int)))) [],bF,bF,bF,.c (.p (blP (outB c.ra (1:Int) (20:Int)))) [],bF,bF,bF,bF,bF,bF,.c (.p (blP (outB c.be (1:Int) c.ra))) [],bF,bF,bF,bF,bF,bF,bF,bF,bF,bF,bF,bF,bF,bF,bF,.k 4 ⟨(rng [(0,1),(2,1),(14,49)]),[0],[],[]⟩ (.exit 0) (chk_S0 c i'0),.k 4 ⟨(rng [(0,1),(2,2),(14,62)]),[0],[],[]⟩ (.exit 2) (chk_S1 c i'1),.k 4 ⟨(rng [(0,1),(2,3),(6,1),(14,84)]),[0],[],[]⟩ (.exit 4) (chk_S2 c i'2),.k 4 ⟨(rng [(0,1),(2,5),(14,103)]),[0],[],[]⟩ (.exit 8) (chk_S4 c i'3),.k 4 ⟨(rng [(0,1),(2,6),(9,165)]),[0],[],[]⟩ .ret (setS (chk_S5 c i'4) [(2,(.p (intP 7)))])]) (l:=[_,_,_,_,_,_,_,_,_,_,_,_,_,_,_,_,_,_,_,_,_,_,_,_,_,_,_,_,_,_,_,_]) (by kernel_rfl) (gc hl10.code (gc hl9.code (gc hl8.code (gc hl7.code (gc hl6.code (gc (q_ltF h5) (gc (q_ltF h4) (gc (q_ltF h4) (gc (q_ltF h4) (gc (q_ltF h4) (gc (q_ltF h4) (gc (q_ltF h4) (gc (q_ltF h4) (gc (q_ltF h3) (gc (q_ltF h3) (gc (q_ltF h3) (gc (q_ltF h3) (gc (q_ltF h3) (gc h2 (gc h1 (gc (fk 1 (outs_ok c.be (1:Int) c.ra) rfl) (gc h1 (gc h1 (gc h1 (gc h1 (gc h1 (gc h0 (gc (fk 1 (outs_ok c.ra (1:Int) (20:Int)) rfl) (gc h0 (gc h0 (gc h0 (gc (fk 1 (outs_ok c.sk (1:Int) (12:Int)) rfl) gn))))))))))))))))))))))))))))))))
theorem chk_p8{c:Cup}{i'0 i'1 i'2 i'3:Nat}(h0:(outB c.sk (1:Int) (12:Int))=false)(h1:(outB c.ra (1:Int) (20:Int))=false)(h2:(outB c.be (1:Int) c.ra)=false)(h3:(1:Int)≤(c.pts.length:Int))(h4:(c.pts.length:Int)≤(60:Int))(h5:(c.done.length:Int)≤c.ra)(hl6:LoopOK Tryz.prog 0 zU2c0 (chk_S0 c 0) (.exit 0) (chk_S0 c i'0))(hl7:LoopOK Tryz.prog 0 zU2c2 (chk_S1 c 0) (.exit 2) (chk_S1 c i'1))(hl8:LoopOK Tryz.prog 0 zU2c4 (chk_S2 c 0) (.exit 4) (chk_S2 c i'2))(hl9:LoopOK Tryz.prog 0 zU2c5 (chk_S4 c 1) .ret (setS (chk_S4 c i'3) [(2,(.p (intP 4)))])){base:Nat}:FV Tryz.prog 43 [(.p (cupP c))] base (.p (intP 4)) []:=by
  exact FV.fin Tryz.func43 rfl (o:=[.c (.p (blP (outB c.sk (1:Int) (12:Int)))) [],bF,bF,bF,.c (.p (blP (outB c.ra (1:Int) (20:Int)))) [],bF,bF,bF,bF,bF,bF,.c (.p (blP (outB c.be (1:Int) c.ra))) [],bF,bF,bF,bF,bF,bF,bF,bF,bF,bF,bF,bF,bF,bF,bF,.k 4 ⟨(rng [(0,1),(2,1),(14,49)]),[0],[],[]⟩ (.exit 0) (chk_S0 c i'0),.k 4 ⟨(rng [(0,1),(2,2),(14,62)]),[0],[],[]⟩ (.exit 2) (chk_S1 c i'1),.k 4 ⟨(rng [(0,1),(2,3),(6,1),(14,84)]),[0],[],[]⟩ (.exit 4) (chk_S2 c i'2),.k 4 ⟨(rng [(0,1),(2,5),(14,103)]),[0],[],[]⟩ .ret (setS (chk_S4 c i'3) [(2,(.p (intP 4)))])]) (l:=[_,_,_,_,_,_,_,_,_,_,_,_,_,_,_,_,_,_,_,_,_,_,_,_,_,_,_,_,_,_,_]) (by kernel_rfl) (gc hl9.code (gc hl8.code (gc hl7.code (gc hl6.code (gc (q_ltF h5) (gc (q_ltF h4) (gc (q_ltF h4) (gc (q_ltF h4) (gc (q_ltF h4) (gc (q_ltF h4) (gc (q_ltF h4) (gc (q_ltF h4) (gc (q_ltF h3) (gc (q_ltF h3) (gc (q_ltF h3) (gc (q_ltF h3) (gc (q_ltF h3) (gc h2 (gc h1 (gc (fk 1 (outs_ok c.be (1:Int) c.ra) rfl) (gc h1 (gc h1 (gc h1 (gc h1 (gc h1 (gc h0 (gc (fk 1 (outs_ok c.ra (1:Int) (20:Int)) rfl) (gc h0 (gc h0 (gc h0 (gc (fk 1 (outs_ok c.sk (1:Int) (12:Int)) rfl) gn)))))))))))))))))))))))))))))))
theorem chk_p9{c:Cup}{i'0 i'1 i'2:Nat}(h0:(outB c.sk (1:Int) (12:Int))=false)(h1:(outB c.ra (1:Int) (20:Int))=false)(h2:(outB c.be (1:Int) c.ra)=false)(h3:(1:Int)≤(c.pts.length:Int))(h4:(c.pts.length:Int)≤(60:Int))(h5:(c.done.length:Int)≤c.ra)(hl6:LoopOK Tryz.prog 0 zU2c0 (chk_S0 c 0) (.exit 0) (chk_S0 c i'0))(hl7:LoopOK Tryz.prog 0 zU2c2 (chk_S1 c 0) (.exit 2) (chk_S1 c i'1))(hl8:LoopOK Tryz.prog 0 zU2c4 (chk_S2 c 0) .ret (setS (chk_S2 c i'2) [(2,(.p (intP 3)))])){base:Nat}:FV Tryz.prog 43 [(.p (cupP c))] base (.p (intP 3)) []:=by
  exact FV.fin Tryz.func43 rfl (o:=[.c (.p (blP (outB c.sk (1:Int) (12:Int)))) [],bF,bF,bF,.c (.p (blP (outB c.ra (1:Int) (20:Int)))) [],bF,bF,bF,bF,bF,bF,.c (.p (blP (outB c.be (1:Int) c.ra))) [],bF,bF,bF,bF,bF,bF,bF,bF,bF,bF,bF,bF,bF,bF,bF,.k 4 ⟨(rng [(0,1),(2,1),(14,49)]),[0],[],[]⟩ (.exit 0) (chk_S0 c i'0),.k 4 ⟨(rng [(0,1),(2,2),(14,62)]),[0],[],[]⟩ (.exit 2) (chk_S1 c i'1),.k 4 ⟨(rng [(0,1),(2,3),(6,1),(14,84)]),[0],[],[]⟩ .ret (setS (chk_S2 c i'2) [(2,(.p (intP 3)))])]) (l:=[_,_,_,_,_,_,_,_,_,_,_,_,_,_,_,_,_,_,_,_,_,_,_,_,_,_,_,_,_,_]) (by kernel_rfl) (gc hl8.code (gc hl7.code (gc hl6.code (gc (q_ltF h5) (gc (q_ltF h4) (gc (q_ltF h4) (gc (q_ltF h4) (gc (q_ltF h4) (gc (q_ltF h4) (gc (q_ltF h4) (gc (q_ltF h4) (gc (q_ltF h3) (gc (q_ltF h3) (gc (q_ltF h3) (gc (q_ltF h3) (gc (q_ltF h3) (gc h2 (gc h1 (gc (fk 1 (outs_ok c.be (1:Int) c.ra) rfl) (gc h1 (gc h1 (gc h1 (gc h1 (gc h1 (gc h0 (gc (fk 1 (outs_ok c.ra (1:Int) (20:Int)) rfl) (gc h0 (gc h0 (gc h0 (gc (fk 1 (outs_ok c.sk (1:Int) (12:Int)) rfl) gn))))))))))))))))))))))))))))))
theorem chk_p10{c:Cup}{i'0 i'1:Nat}(h0:(outB c.sk (1:Int) (12:Int))=false)(h1:(outB c.ra (1:Int) (20:Int))=false)(h2:(outB c.be (1:Int) c.ra)=false)(h3:(1:Int)≤(c.pts.length:Int))(h4:(c.pts.length:Int)≤(60:Int))(h5:(c.done.length:Int)≤c.ra)(hl6:LoopOK Tryz.prog 0 zU2c0 (chk_S0 c 0) (.exit 0) (chk_S0 c i'0))(hl7:LoopOK Tryz.prog 0 zU2c2 (chk_S1 c 0) .ret (setS (chk_S1 c i'1) [(2,(.p (intP 3)))])){base:Nat}:FV Tryz.prog 43 [(.p (cupP c))] base (.p (intP 3)) []:=by
  exact FV.fin Tryz.func43 rfl (o:=[.c (.p (blP (outB c.sk (1:Int) (12:Int)))) [],bF,bF,bF,.c (.p (blP (outB c.ra (1:Int) (20:Int)))) [],bF,bF,bF,bF,bF,bF,.c (.p (blP (outB c.be (1:Int) c.ra))) [],bF,bF,bF,bF,bF,bF,bF,bF,bF,bF,bF,bF,bF,bF,bF,.k 4 ⟨(rng [(0,1),(2,1),(14,49)]),[0],[],[]⟩ (.exit 0) (chk_S0 c i'0),.k 4 ⟨(rng [(0,1),(2,2),(14,62)]),[0],[],[]⟩ .ret (setS (chk_S1 c i'1) [(2,(.p (intP 3)))])]) (l:=[_,_,_,_,_,_,_,_,_,_,_,_,_,_,_,_,_,_,_,_,_,_,_,_,_,_,_,_,_]) (by kernel_rfl) (gc hl7.code (gc hl6.code (gc (q_ltF h5) (gc (q_ltF h4) (gc (q_ltF h4) (gc (q_ltF h4) (gc (q_ltF h4) (gc (q_ltF h4) (gc (q_ltF h4) (gc (q_ltF h4) (gc (q_ltF h3) (gc (q_ltF h3) (gc (q_ltF h3) (gc (q_ltF h3) (gc (q_ltF h3) (gc h2 (gc h1 (gc (fk 1 (outs_ok c.be (1:Int) c.ra) rfl) (gc h1 (gc h1 (gc h1 (gc h1 (gc h1 (gc h0 (gc (fk 1 (outs_ok c.ra (1:Int) (20:Int)) rfl) (gc h0 (gc h0 (gc h0 (gc (fk 1 (outs_ok c.sk (1:Int) (12:Int)) rfl) gn)))))))))))))))))))))))))))))
theorem chk_p11{c:Cup}{i'0:Nat}(h0:(outB c.sk (1:Int) (12:Int))=false)(h1:(outB c.ra (1:Int) (20:Int))=false)(h2:(outB c.be (1:Int) c.ra)=false)(h3:(1:Int)≤(c.pts.length:Int))(h4:(c.pts.length:Int)≤(60:Int))(h5:(c.done.length:Int)≤c.ra)(hl6:LoopOK Tryz.prog 0 zU2c0 (chk_S0 c 0) .ret (setS (chk_S0 c i'0) [(2,(.p (intP 2)))])){base:Nat}:FV Tryz.prog 43 [(.p (cupP c))] base (.p (intP 2)) []:=by
  exact FV.fin Tryz.func43 rfl (o:=[.c (.p (blP (outB c.sk (1:Int) (12:Int)))) [],bF,bF,bF,.c (.p (blP (outB c.ra (1:Int) (20:Int)))) [],bF,bF,bF,bF,bF,bF,.c (.p (blP (outB c.be (1:Int) c.ra))) [],bF,bF,bF,bF,bF,bF,bF,bF,bF,bF,bF,bF,bF,bF,bF,.k 4 ⟨(rng [(0,1),(2,1),(14,49)]),[0],[],[]⟩ .ret (setS (chk_S0 c i'0) [(2,(.p (intP 2)))])]) (l:=[_,_,_,_,_,_,_,_,_,_,_,_,_,_,_,_,_,_,_,_,_,_,_,_,_,_,_,_]) (by kernel_rfl) (gc hl6.code (gc (q_ltF h5) (gc (q_ltF h4) (gc (q_ltF h4) (gc (q_ltF h4) (gc (q_ltF h4) (gc (q_ltF h4) (gc (q_ltF h4) (gc (q_ltF h4) (gc (q_ltF h3) (gc (q_ltF h3) (gc (q_ltF h3) (gc (q_ltF h3) (gc (q_ltF h3) (gc h2 (gc h1 (gc (fk 1 (outs_ok c.be (1:Int) c.ra) rfl) (gc h1 (gc h1 (gc h1 (gc h1 (gc h1 (gc h0 (gc (fk 1 (outs_ok c.ra (1:Int) (20:Int)) rfl) (gc h0 (gc h0 (gc h0 (gc (fk 1 (outs_ok c.sk (1:Int) (12:Int)) rfl) gn))))))))))))))))))))))))))))
theorem chk_L0_p0{c:Cup}{i:Nat}{x100:List Int}(h0:(i:Int)<(c.done.length:Int))(h1:c.done[i]? = some x100)(h2:(x100.length:Int)≠c.sk):CodeOK Tryz.prog 0 zU2c0 (chk_S0 c i) .ret (setS (chk_S0 c i) [(2,(.p (intP 2)))]):=by
  exact CodeOK.fin (g:=⟨(rng [(0,1),(14,49)]),[0],[],[]⟩) (o:=[bT,.x (intsP x100),bT]) (l:=[_,_,_,_]) (by kernel_rfl) (gc (q_neT h2) (gc (atm intsP h1) (gc (ixn intsP h1) (gc (q_lt h0) gn))))
theorem chk_L0_p1{c:Cup}{i:Nat}{x100:List Int}{i':Nat}(h0:(i:Int)<(c.done.length:Int))(h1:c.done[i]? = some x100)(h2:(x100.length:Int)=c.sk)(h3:inR (((i+1):Nat):Int))(ei':i'=(i+1)):CodeOK Tryz.prog 0 zU2c0 (chk_S0 c i) .normal (chk_S0 c i'):=by
  subst ei'
  exact CodeOK.fin (g:=⟨(rng [(0,1),(2,1),(14,49)]),[0],[],[]⟩) (o:=[bT,.x (intsP x100),bF]) (l:=[_,_,_,_,_]) (by kernel_rfl) (gc h3 (gc (q_neF h2) (gc (atm intsP h1) (gc (ixn intsP h1) (gc (q_lt h0) gn)))))
theorem chk_L0_p2{c:Cup}{i:Nat}(h0:(c.done.length:Int)≤(i:Int)):CodeOK Tryz.prog 0 zU2c0 (chk_S0 c i) (.exit 0) (chk_S0 c i):=by
  exact CodeOK.fin (g:=⟨(rng [(0,1),(2,1),(14,49)]),[0],[],[]⟩) (o:=[bF]) (l:=[_]) (by kernel_rfl) (gc (q_ltF h0) gn)
theorem chk_L1_p0{c:Cup}{i:Nat}{x200:Int}(h0:(i:Int)<(c.pts.length:Int))(h1:c.pts[i]? = some x200)(h2:(outB x200 (0:Int) (1000:Int))=true):CodeOK Tryz.prog 0 zU2c2 (chk_S1 c i) .ret (setS (chk_S1 c i) [(2,(.p (intP 3)))]):=by
  exact CodeOK.fin (g:=⟨(rng [(0,1),(3,1),(14,62)]),[0],[],[]⟩) (o:=[bT,.x (intP x200),.c (.p (blP (outB x200 (0:Int) (1000:Int)))) [],bT]) (l:=[_,_,_,_,_]) (by kernel_rfl) (gc h2 (gc (fk 1 (outs_ok x200 (0:Int) (1000:Int)) rfl) (gc (atm intP h1) (gc (ixn intP h1) (gc (q_lt h0) gn)))))
theorem chk_L1_p1{c:Cup}{i:Nat}{x200:Int}{i':Nat}(h0:(i:Int)<(c.pts.length:Int))(h1:c.pts[i]? = some x200)(h2:(outB x200 (0:Int) (1000:Int))=false)(h3:inR (((i+1):Nat):Int))(ei':i'=(i+1)):CodeOK Tryz.prog 0 zU2c2 (chk_S1 c i) .normal (chk_S1 c i'):=by
  subst ei'
  exact CodeOK.fin (g:=⟨(rng [(0,1),(2,2),(14,62)]),[0],[],[]⟩) (o:=[bT,.x (intP x200),.c (.p (blP (outB x200 (0:Int) (1000:Int)))) [],bF]) (l:=[_,_,_,_,_,_]) (by kernel_rfl) (gc h3 (gc h2 (gc (fk 1 (outs_ok x200 (0:Int) (1000:Int)) rfl) (gc (atm intP h1) (gc (ixn intP h1) (gc (q_lt h0) gn))))))
theorem chk_L1_p2{c:Cup}{i:Nat}(h0:(c.pts.length:Int)≤(i:Int)):CodeOK Tryz.prog 0 zU2c2 (chk_S1 c i) (.exit 2) (chk_S1 c i):=by
  exact CodeOK.fin (g:=⟨(rng [(0,1),(2,2),(14,62)]),[0],[],[]⟩) (o:=[bF]) (l:=[_]) (by kernel_rfl) (gc (q_ltF h0) gn)
def chk_S3(c:Cup)(i:Nat)(s:Nat):St:=⟨fr 174 [(1,(.ptr 0 0)),(5,(.p (intP (i:Int)))),(6,(.p (intP (s:Int)))),(76,(.p (intP (i:Int)))),(77,(.ptr 0 4)),(78,(.p (rowsP c.done))),(79,(.p (intP (c.done.length:Int)))),(80,(.p (blP (decide ((i:Int)<(c.done.length:Int))))))],[some (.box 37 [(.p (intP c.sk)),(.p (intP c.ra)),(.p (intP c.be)),(.p (intsP c.pts)),(.p (rowsP c.done))])]⟩
theorem chk_L2_p0{c:Cup}{i s'300 i':Nat}(h0:(i:Int)<(c.done.length:Int))(hl1:LoopOK Tryz.prog 0 zU2c6 (chk_S3 c i 0) (.exit 6) (chk_S3 c i s'300))(h2:inR (((i+1):Nat):Int))(ei':i'=(i+1)):CodeOK Tryz.prog 0 zU2c4 (chk_S2 c i) .normal (chk_S2 c i'):=by
  subst ei'
  exact CodeOK.fin (g:=⟨(rng [(0,1),(2,3),(6,1),(14,84)]),[0],[],[]⟩) (o:=[bT,.k 5 ⟨(rng [(0,1),(2,3),(14,62),(83,15)]),[0],[],[]⟩ (.exit 6) (chk_S3 c i s'300)]) (l:=[_,_,_]) (by kernel_rfl) (gc h2 (gc hl1.code (gc (q_lt h0) gn)))
theorem chk_L2_p1{c:Cup}{i s'300:Nat}(h0:(i:Int)<(c.done.length:Int))(hl1:LoopOK Tryz.prog 0 zU2c6 (chk_S3 c i 0) .ret (setS (chk_S3 c i s'300) [(2,(.p (intP 3)))])):CodeOK Tryz.prog 0 zU2c4 (chk_S2 c i) .ret (setS (chk_S2 c i) [(2,(.p (intP 3)))]):=by
  exact CodeOK.fin (g:=⟨(rng [(0,1),(3,2),(6,1),(14,84)]),[0],[],[]⟩) (o:=[bT,.k 5 ⟨(rng [(0,1),(2,3),(14,62),(83,15)]),[0],[],[]⟩ .ret (setS (chk_S3 c i s'300) [(2,(.p (intP 3)))])]) (l:=[_,_]) (by kernel_rfl) (gc hl1.code (gc (q_lt h0) gn))
theorem chk_L2_p2{c:Cup}{i:Nat}(h0:(c.done.length:Int)≤(i:Int)):CodeOK Tryz.prog 0 zU2c4 (chk_S2 c i) (.exit 4) (chk_S2 c i):=by
  exact CodeOK.fin (g:=⟨(rng [(0,1),(2,3),(6,1),(14,84)]),[0],[],[]⟩) (o:=[bF]) (l:=[_]) (by kernel_rfl) (gc (q_ltF h0) gn)
theorem chk_L4_p0{c:Cup}{i:Nat}{x500 x501:Int}(h0:(i:Int)<(c.pts.length:Int))(h1:c.pts[i]? = some x500)(h2:inR ((i:Int)-(1:Int)))(h3:c.pts[((i:Int)-(1:Int)).toNat]? = some x501)(h4:0≤((i:Int)-(1:Int)))(h5:x501<x500):CodeOK Tryz.prog 0 zU2c5 (chk_S4 c i) .ret (setS (chk_S4 c i) [(2,(.p (intP 4)))]):=by
  exact CodeOK.fin (g:=⟨(rng [(0,1),(3,4),(14,103)]),[0],[],[]⟩) (o:=[bT,.x (intP x500),.x (intP x501),bT]) (l:=[_,(c.pts.map intP)[(((i:Int)-(1:Int)).toNat*1)]? = some (intP x501),_,_,_,_,_]) (by kernel_rfl) (gc (q_lt h5) (gc (at_map (i:=((i:Int)-(1:Int)).toNat) h3) (gc (ix_map (g:=intP) h4 h3) (gc h2 (gc (atm intP h1) (gc (ixn intP h1) (gc (q_lt h0) gn)))))))
theorem chk_L4_p1{c:Cup}{i:Nat}{x500 x501:Int}{i':Nat}(h0:(i:Int)<(c.pts.length:Int))(h1:c.pts[i]? = some x500)(h2:inR ((i:Int)-(1:Int)))(h3:c.pts[((i:Int)-(1:Int)).toNat]? = some x501)(h4:0≤((i:Int)-(1:Int)))(h5:x500≤x501)(h6:inR (((i+1):Nat):Int))(ei':i'=(i+1)):CodeOK Tryz.prog 0 zU2c5 (chk_S4 c i) .normal (chk_S4 c i'):=by
  subst ei'
  exact CodeOK.fin (g:=⟨(rng [(0,1),(2,5),(14,103)]),[0],[],[]⟩) (o:=[bT,.x (intP x500),.x (intP x501),bF]) (l:=[_,_,(c.pts.map intP)[(((i:Int)-(1:Int)).toNat*1)]? = some (intP x501),_,_,_,_,_]) (by kernel_rfl) (gc h6 (gc (q_ltF h5) (gc (at_map (i:=((i:Int)-(1:Int)).toNat) h3) (gc (ix_map (g:=intP) h4 h3) (gc h2 (gc (atm intP h1) (gc (ixn intP h1) (gc (q_lt h0) gn))))))))
theorem chk_L4_p2{c:Cup}{i:Nat}(h0:(c.pts.length:Int)≤(i:Int)):CodeOK Tryz.prog 0 zU2c5 (chk_S4 c i) (.exit 8) (chk_S4 c i):=by
  exact CodeOK.fin (g:=⟨(rng [(0,1),(2,5),(14,103)]),[0],[],[]⟩) (o:=[bF]) (l:=[_]) (by kernel_rfl) (gc (q_ltF h0) gn)
def chk_S6(c:Cup)(i:Nat)(s:Nat):St:=⟨fr 174 [(1,(.ptr 0 0)),(8,(.p (intP (i:Int)))),(9,(.p (intP (s:Int)))),(117,(.p (intP (i:Int)))),(118,(.ptr 0 4)),(119,(.p (rowsP c.done))),(120,(.p (intP (c.done.length:Int)))),(121,(.p (blP (decide ((i:Int)<(c.done.length:Int))))))],[some (.box 37 [(.p (intP c.sk)),(.p (intP c.ra)),(.p (intP c.be)),(.p (intsP c.pts)),(.p (rowsP c.done))])]⟩
theorem chk_L5_p0{c:Cup}{i s'600 i':Nat}(h0:(i:Int)<(c.done.length:Int))(hl1:LoopOK Tryz.prog 0 zU2c1 (chk_S6 c i 0) (.exit 12) (chk_S6 c i s'600))(h2:inR (((i+1):Nat):Int))(ei':i'=(i+1)):CodeOK Tryz.prog 0 zU2c7 (chk_S5 c i) .normal (chk_S5 c i'):=by
  subst ei'
  exact CodeOK.fin (g:=⟨(rng [(0,1),(2,6),(9,165)]),[0],[],[]⟩) (o:=[bT,.k 5 ⟨(rng [(0,1),(2,6),(10,107),(124,50)]),[0],[],[]⟩ (.exit 12) (chk_S6 c i s'600)]) (l:=[_,_,_]) (by kernel_rfl) (gc h2 (gc hl1.code (gc (q_lt h0) gn)))
theorem chk_L5_p1{c:Cup}{i s'600:Nat}(h0:(i:Int)<(c.done.length:Int))(hl1:LoopOK Tryz.prog 0 zU2c1 (chk_S6 c i 0) .ret (setS (chk_S6 c i s'600) [(2,(.p (intP 7)))])):CodeOK Tryz.prog 0 zU2c7 (chk_S5 c i) .ret (setS (chk_S5 c i) [(2,(.p (intP 7)))]):=by
  exact CodeOK.fin (g:=⟨(rng [(0,1),(3,5),(9,165)]),[0],[],[]⟩) (o:=[bT,.k 5 ⟨(rng [(0,1),(2,6),(10,107),(124,50)]),[0],[],[]⟩ .ret (setS (chk_S6 c i s'600) [(2,(.p (intP 7)))])]) (l:=[_,_]) (by kernel_rfl) (gc hl1.code (gc (q_lt h0) gn))
theorem chk_L5_p2{c:Cup}{i:Nat}(h0:(c.done.length:Int)≤(i:Int)):CodeOK Tryz.prog 0 zU2c7 (chk_S5 c i) (.exit 10) (chk_S5 c i):=by
  exact CodeOK.fin (g:=⟨(rng [(0,1),(2,6),(9,165)]),[0],[],[]⟩) (o:=[bF]) (l:=[_]) (by kernel_rfl) (gc (q_ltF h0) gn)
theorem chk_L3_p0{c:Cup}{i s:Nat}{x400:List Int}{x401:Int}(h0:(s:Int)<c.sk)(h1:c.done[i]? = some x400)(h2:x400[s]? = some x401)(h3:(outB x401 (0:Int) (60:Int))=true):CodeOK Tryz.prog 0 zU2c6 (chk_S3 c i s) .ret (setS (chk_S3 c i s) [(2,(.p (intP 3)))]):=by
  exact CodeOK.fin (g:=⟨(rng [(0,1),(3,2),(14,62),(83,15)]),[0],[],[]⟩) (o:=[bT,.x (intsP x400),.x (intP x401),.c (.p (blP (outB x401 (0:Int) (60:Int)))) [],bT]) (l:=[_,_,_,_,_,_,_]) (by kernel_rfl) (gc h3 (gc (fk 1 (outs_ok x401 (0:Int) (60:Int)) rfl) (gc (atm intP h2) (gc (ixn intP h2) (gc (atm intsP h1) (gc (ixn intsP h1) (gc (q_lt h0) gn)))))))
theorem chk_L3_p1{c:Cup}{i s:Nat}{x400:List Int}{x401:Int}{s':Nat}(h0:(s:Int)<c.sk)(h1:c.done[i]? = some x400)(h2:x400[s]? = some x401)(h3:(outB x401 (0:Int) (60:Int))=false)(h4:inR (((s+1):Nat):Int))(es':s'=(s+1)):CodeOK Tryz.prog 0 zU2c6 (chk_S3 c i s) .normal (chk_S3 c i s'):=by
  subst es'
  exact CodeOK.fin (g:=⟨(rng [(0,1),(2,3),(14,62),(83,15)]),[0],[],[]⟩) (o:=[bT,.x (intsP x400),.x (intP x401),.c (.p (blP (outB x401 (0:Int) (60:Int)))) [],bF]) (l:=[_,_,_,_,_,_,_,_]) (by kernel_rfl) (gc h4 (gc h3 (gc (fk 1 (outs_ok x401 (0:Int) (60:Int)) rfl) (gc (atm intP h2) (gc (ixn intP h2) (gc (atm intsP h1) (gc (ixn intsP h1) (gc (q_lt h0) gn))))))))
theorem chk_L3_p2{c:Cup}{i s:Nat}(h0:c.sk≤(s:Int)):CodeOK Tryz.prog 0 zU2c6 (chk_S3 c i s) (.exit 6) (chk_S3 c i s):=by
  exact CodeOK.fin (g:=⟨(rng [(0,1),(2,3),(14,62),(83,15)]),[0],[],[]⟩) (o:=[bF]) (l:=[_]) (by kernel_rfl) (gc (q_ltF h0) gn)
def chk_S7(c:Cup)(i:Nat)(s:Nat)(x700:List Int)(x701:Int)(o:Nat):St:=⟨fr 174 [(1,(.ptr 0 0)),(8,(.p (intP (i:Int)))),(9,(.p (intP (s:Int)))),(10,(.p (intP x701))),(11,(.p (intP ((x701+(((x700.count x701):Nat):Int))-(1:Int))))),(12,(.p (intP (o:Int)))),(117,(.p (intP (i:Int)))),(118,(.ptr 0 4)),(119,(.p (rowsP c.done))),(120,(.p (intP (c.done.length:Int)))),(121,(.p (blP (decide ((i:Int)<(c.done.length:Int)))))),(124,(.p (intP (s:Int)))),(125,(.ptr 0 0)),(126,(.p (intP c.sk))),(127,(.p (blP (decide ((s:Int)<c.sk))))),(130,(.ptr 0 4)),(131,(.p (rowsP c.done))),(132,(.p (intP (i:Int)))),(133,(.rp (c.done.map intsP) (i*1))),(134,(.p (intsP x700))),(135,(.p (intP (s:Int)))),(136,(.rp (x700.map intP) (s*1))),(137,(.p (intP x701))),(138,(.p (intP x701))),(139,(.p (blP (x701 == (0:Int))))),(140,(.p (intP x701))),(141,(.ptr 0 4)),(142,(.p (rowsP c.done))),(143,(.p (intP (i:Int)))),(144,(.rp (c.done.map intsP) (i*1))),(145,(.p (intsP x700))),(146,(.p (intP x701))),(147,(.p (intP (((x700.count x701):Nat):Int)))),(148,(.p (intP (x701+(((x700.count x701):Nat):Int))))),(149,(.p (intP ((x701+(((x700.count x701):Nat):Int))-(1:Int))))),(150,(.p (intP ((x701+(((x700.count x701):Nat):Int))-(1:Int))))),(151,(.p (blP (decide (((x701+(((x700.count x701):Nat):Int))-(1:Int)) > (60:Int))))))],[some (.box 37 [(.p (intP c.sk)),(.p (intP c.ra)),(.p (intP c.be)),(.p (intsP c.pts)),(.p (rowsP c.done))])]⟩
theorem chk_L6_p0{c:Cup}{i s:Nat}{x700:List Int}{x701:Int}{s':Nat}(h0:(s:Int)<c.sk)(h1:c.done[i]? = some x700)(h2:x700[s]? = some x701)(h3:x701=(0:Int))(h4:inR (((s+1):Nat):Int))(es':s'=(s+1)):CodeOK Tryz.prog 0 zU2c1 (chk_S6 c i s) .normal (chk_S6 c i s'):=by
  subst es'
  exact CodeOK.fin (g:=⟨(rng [(0,1),(2,6),(10,107),(124,50)]),[0],[],[]⟩) (o:=[bT,.x (intsP x700),.x (intP x701),bT]) (l:=[_,_,_,_,_,_,_]) (by kernel_rfl) (gc h4 (gc (q_eq h3) (gc (atm intP h2) (gc (ixn intP h2) (gc (atm intsP h1) (gc (ixn intsP h1) (gc (q_lt h0) gn)))))))
theorem chk_L6_p1{c:Cup}{i s:Nat}{x700:List Int}{x701:Int}(h0:(s:Int)<c.sk)(h1:c.done[i]? = some x700)(h2:x700[s]? = some x701)(h3:x701≠(0:Int))(h4:x700.length≤1000)(h5:inR (x701+(((x700.count x701):Nat):Int)))(h6:inR ((x701+(((x700.count x701):Nat):Int))-(1:Int)))(h7:(60:Int)<((x701+(((x700.count x701):Nat):Int))-(1:Int))):CodeOK Tryz.prog 0 zU2c1 (chk_S6 c i s) .ret (setS (chk_S6 c i s) [(2,(.p (intP 7)))]):=by
  exact CodeOK.fin (g:=⟨(rng [(0,1),(3,5),(10,107),(124,50)]),[0],[],[]⟩) (o:=[bT,.x (intsP x700),.x (intP x701),bF,.x (intsP x700),.c (.p (intP (((x700.count x701):Nat):Int))) [],bT]) (l:=[_,_,_,_,_,_,_,_,_,_,_,_]) (by kernel_rfl) (gc (q_lt h7) (gc h6 (gc h5 (gc (fk 1 (shr_ok x700 x701 h4) rfl) (gc (atm intsP h1) (gc (ixn intsP h1) (gc (q_ne h3) (gc (atm intP h2) (gc (ixn intP h2) (gc (atm intsP h1) (gc (ixn intsP h1) (gc (q_lt h0) gn))))))))))))
theorem chk_L6_p2{c:Cup}{i s:Nat}{x700:List Int}{x701:Int}{o'702 s':Nat}(h0:(s:Int)<c.sk)(h1:c.done[i]? = some x700)(h2:x700[s]? = some x701)(h3:x701≠(0:Int))(h4:x700.length≤1000)(h5:inR (x701+(((x700.count x701):Nat):Int)))(h6:inR ((x701+(((x700.count x701):Nat):Int))-(1:Int)))(h7:((x701+(((x700.count x701):Nat):Int))-(1:Int))≤(60:Int))(hl8:LoopOK Tryz.prog 0 zU2c3 (chk_S7 c i s x700 x701 0) (.exit 14) (chk_S7 c i s x700 x701 o'702))(h9:inR (((s+1):Nat):Int))(es':s'=(s+1)):CodeOK Tryz.prog 0 zU2c1 (chk_S6 c i s) .normal (chk_S6 c i s'):=by
  subst es'
  exact CodeOK.fin (g:=⟨(rng [(0,1),(2,6),(10,107),(124,50)]),[0],[],[]⟩) (o:=[bT,.x (intsP x700),.x (intP x701),bF,.x (intsP x700),.c (.p (intP (((x700.count x701):Nat):Int))) [],bF,.k 3 ⟨(rng [(0,1),(2,6),(13,104),(152,22)]),[0],[],[]⟩ (.exit 14) (chk_S7 c i s x700 x701 o'702)]) (l:=[_,_,_,_,_,_,_,_,_,_,_,_,_,_]) (by kernel_rfl) (gc h9 (gc hl8.code (gc (q_ltF h7) (gc h6 (gc h5 (gc (fk 1 (shr_ok x700 x701 h4) rfl) (gc (atm intsP h1) (gc (ixn intsP h1) (gc (q_ne h3) (gc (atm intP h2) (gc (ixn intP h2) (gc (atm intsP h1) (gc (ixn intsP h1) (gc (q_lt h0) gn))))))))))))))
theorem chk_L6_p3{c:Cup}{i s:Nat}{x700:List Int}{x701:Int}{o'702:Nat}(h0:(s:Int)<c.sk)(h1:c.done[i]? = some x700)(h2:x700[s]? = some x701)(h3:x701≠(0:Int))(h4:x700.length≤1000)(h5:inR (x701+(((x700.count x701):Nat):Int)))(h6:inR ((x701+(((x700.count x701):Nat):Int))-(1:Int)))(h7:((x701+(((x700.count x701):Nat):Int))-(1:Int))≤(60:Int))(hl8:LoopOK Tryz.prog 0 zU2c3 (chk_S7 c i s x700 x701 0) .ret (setS (chk_S7 c i s x700 x701 o'702) [(2,(.p (intP 7)))])):CodeOK Tryz.prog 0 zU2c1 (chk_S6 c i s) .ret (setS (chk_S6 c i s) [(2,(.p (intP 7)))]):=by
  exact CodeOK.fin (g:=⟨(rng [(0,1),(3,5),(10,107),(124,50)]),[0],[],[]⟩) (o:=[bT,.x (intsP x700),.x (intP x701),bF,.x (intsP x700),.c (.p (intP (((x700.count x701):Nat):Int))) [],bF,.k 3 ⟨(rng [(0,1),(2,6),(13,104),(152,22)]),[0],[],[]⟩ .ret (setS (chk_S7 c i s x700 x701 o'702) [(2,(.p (intP 7)))])]) (l:=[_,_,_,_,_,_,_,_,_,_,_,_,_]) (by kernel_rfl) (gc hl8.code (gc (q_ltF h7) (gc h6 (gc h5 (gc (fk 1 (shr_ok x700 x701 h4) rfl) (gc (atm intsP h1) (gc (ixn intsP h1) (gc (q_ne h3) (gc (atm intP h2) (gc (ixn intP h2) (gc (atm intsP h1) (gc (ixn intsP h1) (gc (q_lt h0) gn)))))))))))))
theorem chk_L6_p4{c:Cup}{i s:Nat}(h0:c.sk≤(s:Int)):CodeOK Tryz.prog 0 zU2c1 (chk_S6 c i s) (.exit 12) (chk_S6 c i s):=by
  exact CodeOK.fin (g:=⟨(rng [(0,1),(2,6),(10,107),(124,50)]),[0],[],[]⟩) (o:=[bF]) (l:=[_]) (by kernel_rfl) (gc (q_ltF h0) gn)
theorem chk_L7_p0{c:Cup}{i s:Nat}{x700:List Int}{x701:Int}{o:Nat}{x800:List Int}{x801:Int}(h0:(o:Int)<c.sk)(h1:c.done[i]? = some x800)(h2:x800[o]? = some x801)(h3:x701<x801)(h4:x801≤((x701+(((x700.count x701):Nat):Int))-(1:Int))):CodeOK Tryz.prog 0 zU2c3 (chk_S7 c i s x700 x701 o) .ret (setS (chk_S7 c i s x700 x701 o) [(2,(.p (intP 7)))]):=by
  exact CodeOK.fin (g:=⟨(rng [(0,1),(3,5),(13,104),(152,22)]),[0],[],[]⟩) (o:=[bT,.x (intsP x800),.x (intP x801),bT,bT,bT,bT,bT]) (l:=[_,_,_,_,_,_,_,_,_,_]) (by kernel_rfl) (gc (q_le h4) (gc (q_lt h3) (gc (q_lt h3) (gc (q_lt h3) (gc (q_lt h3) (gc (atm intP h2) (gc (ixn intP h2) (gc (atm intsP h1) (gc (ixn intsP h1) (gc (q_lt h0) gn))))))))))
theorem chk_L7_p1{c:Cup}{i s:Nat}{x700:List Int}{x701:Int}{o:Nat}{x800:List Int}{x801:Int}{o':Nat}(h0:(o:Int)<c.sk)(h1:c.done[i]? = some x800)(h2:x800[o]? = some x801)(h3:x701<x801)(h4:((x701+(((x700.count x701):Nat):Int))-(1:Int))<x801)(h5:inR (((o+1):Nat):Int))(eo':o'=(o+1)):CodeOK Tryz.prog 0 zU2c3 (chk_S7 c i s x700 x701 o) .normal (chk_S7 c i s x700 x701 o'):=by
  subst eo'
  exact CodeOK.fin (g:=⟨(rng [(0,1),(2,6),(13,104),(152,22)]),[0],[],[]⟩) (o:=[bT,.x (intsP x800),.x (intP x801),bT,bT,bT,bT,bF]) (l:=[_,_,_,_,_,_,_,_,_,_,_]) (by kernel_rfl) (gc h5 (gc (q_leF h4) (gc (q_lt h3) (gc (q_lt h3) (gc (q_lt h3) (gc (q_lt h3) (gc (atm intP h2) (gc (ixn intP h2) (gc (atm intsP h1) (gc (ixn intsP h1) (gc (q_lt h0) gn)))))))))))
theorem chk_L7_p2{c:Cup}{i s:Nat}{x700:List Int}{x701:Int}{o:Nat}{x800:List Int}{x801:Int}{o':Nat}(h0:(o:Int)<c.sk)(h1:c.done[i]? = some x800)(h2:x800[o]? = some x801)(h3:x801≤x701)(h4:inR (((o+1):Nat):Int))(eo':o'=(o+1)):CodeOK Tryz.prog 0 zU2c3 (chk_S7 c i s x700 x701 o) .normal (chk_S7 c i s x700 x701 o'):=by
  subst eo'
  exact CodeOK.fin (g:=⟨(rng [(0,1),(2,6),(13,104),(152,22)]),[0],[],[]⟩) (o:=[bT,.x (intsP x800),.x (intP x801),bF,bF,bF,bF]) (l:=[_,_,_,_,_,_,_,_,_,_]) (by kernel_rfl) (gc h4 (gc (q_ltF h3) (gc (q_ltF h3) (gc (q_ltF h3) (gc (q_ltF h3) (gc (atm intP h2) (gc (ixn intP h2) (gc (atm intsP h1) (gc (ixn intsP h1) (gc (q_lt h0) gn))))))))))
theorem chk_L7_p3{c:Cup}{i s:Nat}{x700:List Int}{x701:Int}{o:Nat}(h0:c.sk≤(o:Int)):CodeOK Tryz.prog 0 zU2c3 (chk_S7 c i s x700 x701 o) (.exit 14) (chk_S7 c i s x700 x701 o):=by
  exact CodeOK.fin (g:=⟨(rng [(0,1),(2,6),(13,104),(152,22)]),[0],[],[]⟩) (o:=[bF]) (l:=[_]) (by kernel_rfl) (gc (q_ltF h0) gn)
theorem falls_any(pts:List Int):KL.fallsB pts = !((List.range (pts.length-1)).any fun j=>decide (pts.getD j 0<pts.getD (j+1) 0)):=by
  unfold KL.fallsB KL.sortedB
  rw [Bool.eq_iff_iff]
  simp only [decide_eq_true_eq,Bool.not_eq_true',List.any_eq_false,List.mem_range,decide_eq_true_eq,Int.not_lt]
  constructor
  · intro h j hj
    have:=h j hj
    unfold KL.cmpDown KL.cmpI at this
    split at this
    · omega
    · split at this <;> omega
  · intro h j hj
    have:=h j hj
    unfold KL.cmpDown KL.cmpI
    repeat' split
    all_goals omega
theorem chk_eq(c:Cup):checkP c=if (outB c.sk 1 12 || outB c.ra 1 20 || outB c.be 1 c.ra)=true then 3
    else if (outB c.pts.length 1 60 || decide (c.ra<c.done.length) || c.done.any (fun r=>decide ((r.length:Int)≠c.sk)))=true then 2
    else if (c.pts.any (fun n=>outB n 0 1000) || c.done.any (fun r=>r.any fun p=>outB p 0 60))=true then 3
    else if ((List.range (c.pts.length-1)).any fun j=>decide (c.pts.getD j 0<c.pts.getD (j+1) 0))=true then 4
    else if c.done.any KL.clashR=true then 7 else 0:=by
  unfold checkP
  simp only [wi_out,Bool.not_not,List.not_all_eq_any_not,falls_any]
  congr 1
  congr 1
  congr 3
  funext r
  by_cases e:(r.length:Int)=c.sk <;> simp [e]
theorem chk_ok(c:Cup)(hS:KL.Small c){base:Nat}:FV Tryz.prog 43 [.p (cupP c)] base (.p (intP (checkP c))) []:=by
  have s1:=hS.pts
  have s2:=hS.done
  have atD:∀ (l:List Int) (j:Nat),j<l.length→l[j]? = some (l.getD j 0):=fun l j hj=>by
    rw [List.getElem?_eq_getElem hj,List.getD_eq_getElem?_getD,List.getElem?_eq_getElem hj];rfl
  rw [chk_eq]
  cases a1:outB c.sk 1 12
  case true=>rw [if_pos (by simp)];exact chk_p0 a1
  cases a2:outB c.ra 1 20
  case true=>rw [if_pos (by simp)];exact chk_p1 a1 a2
  cases a3:outB c.be 1 c.ra
  case true=>rw [if_pos (by simp)];exact chk_p2 a1 a2 a3
  rw [if_neg (by simp)]
  have k1:1≤c.sk∧c.sk≤12:=by simpa [outB] using a1
  by_cases b1:(c.pts.length:Int)<1
  · rw [if_pos (by simp [outB];omega)];exact chk_p3 a1 a2 a3 b1
  by_cases b2:60<(c.pts.length:Int)
  · rw [if_pos (by simp [outB];omega)];exact chk_p4 a1 a2 a3 (by omega) b2
  have b3:outB c.pts.length 1 60=false:=by simp [outB];omega
  rw [b3]
  by_cases b4:c.ra<(c.done.length:Int)
  · rw [if_pos (by simp [b4])];exact chk_p5 a1 a2 a3 (by omega) (by omega) b4
  rcases LoopOK.find (P:=Tryz.prog) (k:=0) (b:=zU2c0) (fun i=>chk_S0 c i) (fun i _=>setS (chk_S0 c i) [(2,.p (intP 2))]) (chk_S0 c c.done.length) .ret (.exit 0) (by simp) (by simp) (fun r=>decide ((r.length:Int)≠c.sk)) c.done
    (fun i x hx hp=>chk_L0_p1 (by have:=lt_of_at hx;omega) hx (by simpa using hp) (inR_nat (by have:=lt_of_at hx;omega)) rfl)
    (fun i x hx hp=>chk_L0_p0 (by have:=lt_of_at hx;omega) hx (by simpa using hp))
    (chk_L0_p2 (by omega)) with ⟨i,x,h1,h2,h3,h4⟩ | ⟨_,c1,L0⟩
  · have:c.done.any (fun r=>decide ((r.length:Int)≠c.sk))=true:=List.any_eq_true.2 ⟨x,List.mem_of_getElem? h1,h3⟩
    rw [if_pos (by rw [this];simp)]
    exact chk_p11 a1 a2 a3 (by omega) (by omega) (by omega) h4
  rw [c1,if_neg (by simp [b4])]
  have hlen:∀ (i:Nat) (r:List Int),c.done[i]? = some r→(r.length:Int)=c.sk:=fun i r hr=>by
    have:=List.any_eq_false.1 c1 r (List.mem_of_getElem? hr)
    simpa using this
  rcases LoopOK.find (P:=Tryz.prog) (k:=0) (b:=zU2c2) (fun i=>chk_S1 c i) (fun i _=>setS (chk_S1 c i) [(2,.p (intP 3))]) (chk_S1 c c.pts.length) .ret (.exit 2) (by simp) (by simp) (fun n=>outB n 0 1000) c.pts
    (fun i x hx hp=>chk_L1_p1 (by have:=lt_of_at hx;omega) hx hp (inR_nat (by have:=lt_of_at hx;omega)) rfl)
    (fun i x hx hp=>chk_L1_p0 (by have:=lt_of_at hx;omega) hx hp)
    (chk_L1_p2 (by omega)) with ⟨i,x,h1,h2,h3,h4⟩ | ⟨_,c2,L1⟩
  · have:c.pts.any (fun n=>outB n 0 1000)=true:=List.any_eq_true.2 ⟨x,List.mem_of_getElem? h1,h3⟩
    rw [if_pos (by rw [this];simp)]
    exact chk_p10 a1 a2 a3 (by omega) (by omega) (by omega) L0 h4
  rw [c2]
  rcases LoopOK.find (P:=Tryz.prog) (k:=0) (b:=zU2c4) (fun i=>chk_S2 c i) (fun i _=>setS (chk_S2 c i) [(2,.p (intP 3))]) (chk_S2 c c.done.length) .ret (.exit 4) (by simp) (by simp) (fun r=>r.any fun p=>outB p 0 60) c.done
    (fun i x hx hp=>by
      have hi:=lt_of_at hx
      have hl:=hlen i x hx
      rcases LoopOK.find (P:=Tryz.prog) (k:=0) (b:=zU2c6) (fun s=>chk_S3 c i s) (fun s _=>setS (chk_S3 c i s) [(2,.p (intP 3))]) (chk_S3 c i x.length) .ret (.exit 6) (by simp) (by simp) (fun p=>outB p 0 60) x
        (fun s y hy hq=>chk_L3_p1 (by have:=lt_of_at hy;omega) hx hy hq (inR_nat (by have:=lt_of_at hy;omega)) rfl)
        (fun s y hy hq=>chk_L3_p0 (by have:=lt_of_at hy;omega) hx hy hq)
        (chk_L3_p2 (by omega)) with ⟨j,y,g1,g2,g3,g4⟩ | ⟨_,g1,g2⟩
      · have:x.any (fun p=>outB p 0 60)=true:=List.any_eq_true.2 ⟨y,List.mem_of_getElem? g1,g3⟩
        rw [this] at hp;cases hp
      · exact chk_L2_p0 (by omega) g2 (inR_nat (by omega)) rfl)
    (fun i x hx hp=>by
      have hi:=lt_of_at hx
      have hl:=hlen i x hx
      rcases LoopOK.find (P:=Tryz.prog) (k:=0) (b:=zU2c6) (fun s=>chk_S3 c i s) (fun s _=>setS (chk_S3 c i s) [(2,.p (intP 3))]) (chk_S3 c i x.length) .ret (.exit 6) (by simp) (by simp) (fun p=>outB p 0 60) x
        (fun s y hy hq=>chk_L3_p1 (by have:=lt_of_at hy;omega) hx hy hq (inR_nat (by have:=lt_of_at hy;omega)) rfl)
        (fun s y hy hq=>chk_L3_p0 (by have:=lt_of_at hy;omega) hx hy hq)
        (chk_L3_p2 (by omega)) with ⟨j,y,g1,g2,g3,g4⟩ | ⟨_,g1,g2⟩
      · exact chk_L2_p1 (by omega) g4
      · rw [g1] at hp;cases hp)
    (chk_L2_p2 (by omega)) with ⟨i,x,h1,h2,h3,h4⟩ | ⟨_,c3,L2⟩
  · have:c.done.any (fun r=>r.any fun p=>outB p 0 60)=true:=List.any_eq_true.2 ⟨x,List.mem_of_getElem? h1,h3⟩
    rw [if_pos (by rw [this];simp)]
    exact chk_p9 a1 a2 a3 (by omega) (by omega) (by omega) L0 L1 h4
  rw [c3,if_neg (by simp)]
  have hbd:∀ (i:Nat) (r:List Int),c.done[i]? = some r→∀ x∈r,0≤x∧x≤60:=fun i r hr x hx=>by
    have h1:=List.any_eq_false.1 c3 r (List.mem_of_getElem? hr)
    have h2:r.any (fun p=>outB p 0 60)=false:=by simpa using h1
    have h3:=List.any_eq_false.1 h2 x hx
    simpa [outB] using h3
  rcases LoopOK.find (P:=Tryz.prog) (k:=0) (b:=zU2c5) (fun i=>chk_S4 c (i+1)) (fun i _=>setS (chk_S4 c (i+1)) [(2,.p (intP 4))]) (chk_S4 c (c.pts.length-1+1)) .ret (.exit 8) (by simp) (by simp) (fun j=>decide (c.pts.getD j 0<c.pts.getD (j+1) 0)) (List.range (c.pts.length-1))
    (fun i x hx hp=>by
      obtain ⟨rfl,hi⟩:=range_at hx
      have e:(((x+1:Nat):Int)-1).toNat=x:=by omega
      exact chk_L4_p1 (x501:=c.pts.getD x 0) (by omega) (atD _ _ (by omega)) (by unfold inR;omega) (by rw [e];exact atD _ _ (by omega)) (by omega) (by simpa using hp) (inR_nat (by omega)) rfl)
    (fun i x hx hp=>by
      obtain ⟨rfl,hi⟩:=range_at hx
      have e:(((x+1:Nat):Int)-1).toNat=x:=by omega
      exact chk_L4_p0 (x501:=c.pts.getD x 0) (by omega) (atD _ _ (by omega)) (by unfold inR;omega) (by rw [e];exact atD _ _ (by omega)) (by omega) (by simpa using hp))
    (by rw [List.length_range];exact chk_L4_p2 (by omega)) with ⟨i,x,h1,h2,h3,h4⟩ | ⟨_,c4,L4⟩
  · have:((List.range (c.pts.length-1)).any fun j=>decide (c.pts.getD j 0<c.pts.getD (j+1) 0))=true:=List.any_eq_true.2 ⟨x,List.mem_of_getElem? h1,h3⟩
    rw [if_pos this]
    exact chk_p8 a1 a2 a3 (by omega) (by omega) (by omega) L0 L1 L2 h4
  rw [if_neg (by rw [c4];simp)]
  have inner:∀ (i:Nat) (x:List Int),c.done[i]? = some x→(KL.clashR x=true∧∃ s,LoopOK Tryz.prog 0 zU2c1 (chk_S6 c i 0) .ret (setS (chk_S6 c i s) [(2,.p (intP 7))]))∨(KL.clashR x=false∧∃ s,LoopOK Tryz.prog 0 zU2c1 (chk_S6 c i 0) (.exit 12) (chk_S6 c i s)):=fun i x hx=>by
    have hi:=lt_of_at hx
    have hl:=hlen i x hx
    have hb:=hbd i x hx
    have hxl:x.length≤1000:=by omega
    rw [clash_any x fun y hy=>(hb y hy).1]
    have deep:∀ (s:Nat) (p:Int),((x.any fun q=>decide (p<q) && decide (q≤p+(x.count p:Int)-1))=true∧∃ o,LoopOK Tryz.prog 0 zU2c3 (chk_S7 c i s x p 0) .ret (setS (chk_S7 c i s x p o) [(2,.p (intP 7))]))∨((x.any fun q=>decide (p<q) && decide (q≤p+(x.count p:Int)-1))=false∧∃ o,LoopOK Tryz.prog 0 zU2c3 (chk_S7 c i s x p 0) (.exit 14) (chk_S7 c i s x p o)):=fun s p=>by
      rcases LoopOK.find (P:=Tryz.prog) (k:=0) (b:=zU2c3) (fun o=>chk_S7 c i s x p o) (fun o _=>setS (chk_S7 c i s x p o) [(2,.p (intP 7))]) (chk_S7 c i s x p x.length) .ret (.exit 14) (by simp) (by simp) (fun q=>decide (p<q) && decide (q≤p+(x.count p:Int)-1)) x
        (fun o q hq hp=>by
          have ho:=lt_of_at hq
          by_cases e:p<q
          · exact chk_L7_p1 (by omega) hx hq e (by simpa [e] using hp) (inR_nat (by omega)) rfl
          · exact chk_L7_p2 (by omega) hx hq (by omega) (inR_nat (by omega)) rfl)
        (fun o q hq hp=>by
          have ho:=lt_of_at hq
          simp only [Bool.and_eq_true,decide_eq_true_eq] at hp
          exact chk_L7_p0 (by omega) hx hq hp.1 hp.2)
        (chk_L7_p3 (by omega)) with ⟨j,y,g1,g2,g3,g4⟩ | ⟨_,g1,g2⟩
      · exact .inl ⟨List.any_eq_true.2 ⟨y,List.mem_of_getElem? g1,g3⟩,_,g4⟩
      · exact .inr ⟨g1,_,g2⟩
    rcases LoopOK.find (P:=Tryz.prog) (k:=0) (b:=zU2c1) (fun s=>chk_S6 c i s) (fun s _=>setS (chk_S6 c i s) [(2,.p (intP 7))]) (chk_S6 c i x.length) .ret (.exit 12) (by simp) (by simp) (badP x) x
      (fun s p hp hq=>by
        have hs:=lt_of_at hp
        have hb1:=hb p (List.mem_of_getElem? hp)
        have hcn:x.count p≤x.length:=List.count_le_length
        by_cases e0:p=0
        · exact chk_L6_p0 (by omega) hx hp e0 (inR_nat (by omega)) rfl
        · unfold badP at hq
          simp only [ne_eq,e0,not_false_eq_true,decide_true,Bool.true_and,Bool.or_eq_false_iff] at hq
          obtain ⟨q1,q2⟩:=hq
          have q1:=of_decide_eq_false q1
          rcases deep s p with ⟨d1,o,d2⟩ | ⟨d1,o,d2⟩
          · rw [d1] at q2;cases q2
          · exact chk_L6_p2 (by omega) hx hp e0 hxl (by unfold inR;omega) (by unfold inR;omega) (by omega) d2 (inR_nat (by omega)) rfl)
      (fun s p hp hq=>by
        have hs:=lt_of_at hp
        have hb1:=hb p (List.mem_of_getElem? hp)
        have hcn:x.count p≤x.length:=List.count_le_length
        unfold badP at hq
        simp only [ne_eq,Bool.and_eq_true,decide_eq_true_eq,Bool.or_eq_true] at hq
        obtain ⟨e0,hq⟩:=hq
        by_cases q1:60<p+(x.count p:Int)-1
        · exact chk_L6_p1 (by omega) hx hp e0 hxl (by unfold inR;omega) (by unfold inR;omega) q1
        · rcases deep s p with ⟨d1,o,d2⟩ | ⟨d1,o,d2⟩
          · exact chk_L6_p3 (by omega) hx hp e0 hxl (by unfold inR;omega) (by unfold inR;omega) (by omega) d2
          · rw [d1] at hq
            rcases hq with hq | hq
            · exact absurd hq q1
            · cases hq)
      (chk_L6_p4 (by omega)) with ⟨j,y,g1,g2,g3,g4⟩ | ⟨_,g1,g2⟩
    · exact .inl ⟨List.any_eq_true.2 ⟨y,List.mem_of_getElem? g1,g3⟩,_,g4⟩
    · exact .inr ⟨g1,_,g2⟩
  rcases LoopOK.find (P:=Tryz.prog) (k:=0) (b:=zU2c7) (fun i=>chk_S5 c i) (fun i _=>setS (chk_S5 c i) [(2,.p (intP 7))]) (chk_S5 c c.done.length) .ret (.exit 10) (by simp) (by simp) KL.clashR c.done
    (fun i x hx hp=>by
      have hi:=lt_of_at hx
      rcases inner i x hx with ⟨d1,s,d2⟩ | ⟨d1,s,d2⟩
      · rw [d1] at hp;cases hp
      · exact chk_L5_p0 (by omega) d2 (inR_nat (by omega)) rfl)
    (fun i x hx hp=>by
      have hi:=lt_of_at hx
      rcases inner i x hx with ⟨d1,s,d2⟩ | ⟨d1,s,d2⟩
      · exact chk_L5_p1 (by omega) d2
      · rw [d1] at hp;cases hp)
    (chk_L5_p2 (by omega)) with ⟨i,x,h1,h2,h3,h4⟩ | ⟨_,c5,L5⟩
  · have:c.done.any KL.clashR=true:=List.any_eq_true.2 ⟨x,List.mem_of_getElem? h1,h3⟩
    rw [if_pos this]
    exact chk_p7 a1 a2 a3 (by omega) (by omega) (by omega) L0 L1 L2 L4 h4
  · rw [if_neg (by rw [c5];simp)]
    exact chk_p6 a1 a2 a3 (by omega) (by omega) (by omega) L0 L1 L2 L4 L5
end
section
open KL
noncomputable abbrev zU3c0:Code:=sub (cd Tryz.f18) [1,1,0,1,0,0]
noncomputable abbrev zU3c1:Code:=sub (cd Tryz.f53) [1,1,0,1,0,0,1,0,0,1,0,1,0,0]
noncomputable abbrev zU3c2:Code:=sub (cd Tryz.f124) [1,1,1,1,0,1,0,0]
noncomputable abbrev zU3c3:Code:=sub (cd Tryz.f53) [1,1,0,1,0,0]
noncomputable abbrev zU3c4:Code:=sub (cd Tryz.f48) [1,1,0,1,0,0]
noncomputable abbrev zU3c5:Code:=sub (cd Tryz.f116) [1,1,0,1,0,0]
noncomputable abbrev zU3c6:Code:=sub (cd Tryz.f61) [1,1,0,1,0,0]
noncomputable abbrev zU3c7:Code:=sub (cd Tryz.f52) [1,1,1,0,1,0,0]
noncomputable abbrev zU3c8:Code:=sub (cd Tryz.f46) [1,1,0,1,0,0]
def rsc_S0(c:Cup)(l:List Int)(x0:Int)(q:Int)(sm:Int):St:=⟨fr 44 [(3,(.ptr 0 0)),(6,(.p (intP 0))),(7,(.p (intP x0))),(8,(.p (intP sm))),(9,(.p (intP (((l.count x0):Nat):Int)))),(10,(.p (intP q)))],[some (.box 37 [(.p (intP c.sk)),(.p (intP c.ra)),(.p (intP c.be)),(.p (intsP c.pts)),(.p (rowsP c.done))])]⟩
theorem rsc_p0{c:Cup}{l:List Int}{k x0:Int}(h0:l[k.toNat]? = some x0)(h1:0≤k)(h2:x0=(0:Int)){base:Nat}:FV Tryz.prog 124 [(.p (cupP c)),(.p (intsP l)),(.p (intP k))] base (.p (intP 0)) []:=by
  exact FV.fin Tryz.func124 rfl (o:=[.x (intP x0),bT]) (l:=[_,(l.map intP)[(k.toNat*1)]? = some (intP x0),_]) (by kernel_rfl) (gc (q_eq h2) (gc (at_map (i:=k.toNat) h0) (gc (ix_map (g:=intP) h1 h0) gn)))
theorem rsc_p1{c:Cup}{l:List Int}{k x0 q'1 sm'2 r0:Int}(h0:l[k.toNat]? = some x0)(h1:0≤k)(h2:x0≠(0:Int))(h3:l.length≤1000)(hl4:LoopOK Tryz.prog 0 zU3c2 (rsc_S0 c l x0 x0 (0:Int)) (.exit 0) (rsc_S0 c l x0 q'1 sm'2))(h5:(((l.count x0):Nat):Int)≠0)(h6:inR (sm'2.tdiv (((l.count x0):Nat):Int)))(er0:r0=(sm'2.tdiv (((l.count x0):Nat):Int))){base:Nat}:FV Tryz.prog 124 [(.p (cupP c)),(.p (intsP l)),(.p (intP k))] base (.p (intP r0)) []:=by
  subst er0
  exact FV.fin Tryz.func124 rfl (o:=[.x (intP x0),bF,.c (.p (intP (((l.count x0):Nat):Int))) [],.k 4 ⟨(rng [(0,3),(4,2),(11,30)]),[0],[],[]⟩ (.exit 0) (rsc_S0 c l x0 q'1 sm'2)]) (l:=[_,_,_,_,_,(l.map intP)[(k.toNat*1)]? = some (intP x0),_]) (by kernel_rfl) (gc h6 (gc h5 (gc hl4.code (gc (fk 1 (shr_ok l x0 h3) rfl) (gc (q_ne h2) (gc (at_map (i:=k.toNat) h0) (gc (ix_map (g:=intP) h1 h0) gn)))))))
theorem rsc_L0_p0{c:Cup}{l:List Int}{x0 q sm x100 q' sm':Int}(h0:inR (x0+(((l.count x0):Nat):Int)))(h1:q<(x0+(((l.count x0):Nat):Int)))(h2:q≤(c.pts.length:Int))(h3:inR (q-(1:Int)))(h4:c.pts[(q-(1:Int)).toNat]? = some x100)(h5:0≤(q-(1:Int)))(h6:inR (sm+x100))(h7:inR (q+(1:Int)))(eq':q'=(q+(1:Int)))(esm':sm'=(sm+x100)):CodeOK Tryz.prog 0 zU3c2 (rsc_S0 c l x0 q sm) .normal (rsc_S0 c l x0 q' sm'):=by
  subst eq' esm'
  exact CodeOK.fin (g:=⟨(rng [(0,3),(4,2),(11,30)]),[0],[],[]⟩) (o:=[bT,bT,.x (intP x100)]) (l:=[_,_,(c.pts.map intP)[((q-(1:Int)).toNat*1)]? = some (intP x100),_,_,_,_,_]) (by kernel_rfl) (gc h7 (gc h6 (gc (at_map (i:=(q-(1:Int)).toNat) h4) (gc (ix_map (g:=intP) h5 h4) (gc h3 (gc (q_le h2) (gc (q_lt h1) (gc h0 gn))))))))
theorem rsc_L0_p1{c:Cup}{l:List Int}{x0 q sm q':Int}(h0:inR (x0+(((l.count x0):Nat):Int)))(h1:q<(x0+(((l.count x0):Nat):Int)))(h2:(c.pts.length:Int)<q)(h3:inR (q+(1:Int)))(eq':q'=(q+(1:Int))):CodeOK Tryz.prog 0 zU3c2 (rsc_S0 c l x0 q sm) .normal (rsc_S0 c l x0 q' sm):=by
  subst eq'
  exact CodeOK.fin (g:=⟨(rng [(0,3),(4,2),(11,30)]),[0],[],[]⟩) (o:=[bT,bF]) (l:=[_,_,_,_]) (by kernel_rfl) (gc h3 (gc (q_leF h2) (gc (q_lt h1) (gc h0 gn))))
theorem rsc_L0_p2{c:Cup}{l:List Int}{x0 q sm:Int}(h0:inR (x0+(((l.count x0):Nat):Int)))(h1:(x0+(((l.count x0):Nat):Int))≤q):CodeOK Tryz.prog 0 zU3c2 (rsc_S0 c l x0 q sm) (.exit 0) (rsc_S0 c l x0 q sm):=by
  exact CodeOK.fin (g:=⟨(rng [(0,3),(4,2),(11,30)]),[0],[],[]⟩) (o:=[bF]) (l:=[_,_]) (by kernel_rfl) (gc (q_ltF h1) (gc h0 gn))
theorem rsc_ok(c:Cup)(l:List Int)(k:Int)(hV:KL.Valid c)(hl:l.length≤1000)(hb:∀ x∈l,0≤x∧x≤60)(hk:0≤k∧k<l.length){base:Nat}:FV Tryz.prog 124 [.p (cupP c),.p (intsP l),.p (intP k)] base (.p (intP (scoreM c.pts l k.toNat))) []:=by
  have hp:=hV.pt2
  obtain ⟨x,hx⟩:∃ x,l[k.toNat]? = some x:=⟨l[k.toNat]'(by omega),List.getElem?_eq_getElem (by omega)⟩
  have hg:l.getD k.toNat 0=x:=by rw [List.getD_eq_getElem?_getD,hx];rfl
  have hxb:=hb x (List.mem_of_getElem? hx)
  unfold scoreM
  rw [hg]
  by_cases h0:x=0
  · rw [if_pos h0];exact rsc_p0 hx hk.1 h0
  · rw [if_neg h0]
    have hc1:l.count x≤l.length:=List.count_le_length
    have hc2:1≤l.count x:=List.count_pos_iff.2 (List.mem_of_getElem? hx)
    have hw:∀ m,0≤KL.worthM c.pts x.toNat m∧KL.worthM c.pts x.toNat m≤1000*m:=fun m=>KL.worthM_bd _ _ _ hV.pts
    have h:=LoopOK.count (P:=Tryz.prog) (k:=0) (b:=zU3c2) (e := .exit 0) (R:=rsc_S0 c l x (x+(l.count x:Int)) (KL.worthM c.pts x.toNat (l.count x))) (l.count x) (fun j=>rsc_S0 c l x (x+(j:Int)) (KL.worthM c.pts x.toNat j))
      (fun j hj=>by
        have hw1:=hw j
        have hw2:=hw (j+1)
        have es:=KL.worth_snoc c.pts x.toNat j
        by_cases e:x+(j:Int)≤c.pts.length
        · have ei:(x+(j:Int)-1).toNat=x.toNat-1+j:=by omega
          have ea:c.pts[(x+(j:Int)-1).toNat]? = some (c.pts.getD (x.toNat-1+j) 0):=by
            rw [ei,List.getD_eq_getElem?_getD,List.getElem?_eq_getElem (by omega)];rfl
          exact rsc_L0_p0 (by unfold inR;omega) (by omega) e (by unfold inR;omega) ea (by omega) (by rw [← es];unfold inR;omega) (by unfold inR;omega) (by omega) es
        · have e0:c.pts.getD (x.toNat-1+j) 0=0:=by
            rw [List.getD_eq_getElem?_getD,List.getElem?_eq_none (by omega)];rfl
          rw [e0,Int.add_zero] at es
          have h1:=rsc_L0_p1 (c:=c) (l:=l) (x0:=x) (q:=x+(j:Int)) (sm:=KL.worthM c.pts x.toNat j) (q':=x+((j+1:Nat):Int)) (by unfold inR;omega) (by omega) (by omega) (by unfold inR;omega) (by omega)
          have key:∀ w,w=KL.worthM c.pts x.toNat j→CodeOK Tryz.prog 0 zU3c2 (rsc_S0 c l x (x+(j:Int)) (KL.worthM c.pts x.toNat j)) .normal (rsc_S0 c l x (x+((j+1:Nat):Int)) w):=by rintro _ rfl;exact h1
          exact key _ es)
      (rsc_L0_p2 (by unfold inR;omega) (by omega)) (by simp)
    have w0:KL.worthM c.pts x.toNat 0=0:=by unfold KL.worthM;simp
    rw [show x+((0:Nat):Int)=x by omega,w0] at h
    have hd:(KL.worthM c.pts x.toNat (l.count x)).tdiv (l.count x:Int)=KL.worthM c.pts x.toNat (l.count x) / (l.count x:Int):=Int.tdiv_eq_ediv_of_nonneg (hw _).1
    have d1:=Int.ediv_nonneg (hw (l.count x)).1 (show (0:Int)≤(l.count x:Int) by omega)
    have d2:=Int.ediv_le_self (l.count x:Int) (hw (l.count x)).1
    have d3:=(hw (l.count x)).2
    exact rsc_p1 hx hk.1 h0 hl h (by omega) (by rw [hd];unfold inR;omega) hd.symm
def rcn_S0(c:Cup)(k:Int)(i:Nat)(on:Nat)(oc:List PV):St:=⟨fr 65 [(1,(.p (intP k))),(2,(.ptr 0 0)),(4,(.p nilS)),(5,(.own 1)),(6,(.p (intP (i:Int))))],[some (.box 37 [(.p (intP c.sk)),(.p (intP c.ra)),(.p (intP c.be)),(.p (intsP c.pts)),(.p (rowsP c.done))]),some (.row 3 on oc)]⟩
theorem rcn_p0{c:Cup}{k:Int}{i'0:Nat}{o'1:List Int}(hl0:LoopOK Tryz.prog 0 zU3c3 (rcn_S0 c k 0 0 []) (.exit 0) (rcn_S0 c k i'0 o'1.length (o'1.map intP))){base:Nat}:FV Tryz.prog 53 [(.p (cupP c)),(.p (intP k))] base (.p (intsP o'1)) []:=by
  exact FV.frz (FMM.fin (k:=0) (g:=⟨[],[],[1],[]⟩) rfl Tryz.func53 rfl (o:=[.k 8 ⟨(rng [(0,1),(3,1),(7,57)]),[0,1],[],[(5,3)]⟩ (.exit 0) (rcn_S0 c k i'0 o'1.length (o'1.map intP))]) (l:=[_]) (by kernel_rfl) (gc hl0.code gn)) (by kernel_rfl)
def rcn_S1(c:Cup)(k:Int)(i:Nat)(o:List Int)(j:Nat)(n:Nat):St:=⟨fr 65 [(1,(.p (intP k))),(2,(.ptr 0 0)),(4,(.p nilS)),(5,(.own 1)),(6,(.p (intP (i:Int)))),(7,(.p (intP (n:Int)))),(8,(.p (intP (j:Int)))),(11,(.p (intP (i:Int)))),(12,(.ptr 0 4)),(13,(.p (rowsP c.done))),(14,(.p (intP (c.done.length:Int)))),(15,(.p (blP (decide ((i:Int)<(c.done.length:Int))))))],[some (.box 37 [(.p (intP c.sk)),(.p (intP c.ra)),(.p (intP c.be)),(.p (intsP c.pts)),(.p (rowsP c.done))]),some (.row 3 o.length (o.map intP))]⟩
theorem rcn_L0_p0{c:Cup}{k:Int}{i:Nat}{o:List Int}{j'100 n'101 i':Nat}{o':List Int}(h0:(i:Int)<(c.done.length:Int))(hl1:LoopOK Tryz.prog 0 zU3c1 (rcn_S1 c k i o 0 0) (.exit 2) (rcn_S1 c k i o j'100 n'101))(h2:(n'101:Int)<c.be)(h3:[(intP (i:Int))].length=1*1∧o.length+1≤1000000)(h4:inR (((i+1):Nat):Int))(ei':i'=(i+1))(eo'n:o'.length=(o.length+1))(eo'c:o'.map intP=((o.map intP)++[(intP (i:Int))])):CodeOK Tryz.prog 0 zU3c3 (rcn_S0 c k i o.length (o.map intP)) .normal (rcn_S0 c k i' o'.length (o'.map intP)):=by
  subst ei'
  have raw:CodeOK Tryz.prog 0 zU3c3 (rcn_S0 c k i o.length (o.map intP)) .normal (rcn_S0 c k (i+1) (o.length+1) ((o.map intP)++[(intP (i:Int))])):=CodeOK.fin (g:=⟨(rng [(0,1),(3,1),(7,57)]),[0,3],[],[]⟩) (o:=[bT,.k 8 ⟨(rng [(0,1),(3,1),(9,2),(18,38)]),[0,1],[],[]⟩ (.exit 2) (rcn_S1 c k i o j'100 n'101),bT]) (l:=[_,_,_,_,_]) (by kernel_rfl) (gc h4 (gc h3 (gc (q_lt h2) (gc hl1.code (gc (q_lt h0) gn)))))
  exact raw.cast (by rw [eo'n,eo'c])
theorem rcn_L0_p1{c:Cup}{k:Int}{i:Nat}{o:List Int}{j'100 n'101 i':Nat}(h0:(i:Int)<(c.done.length:Int))(hl1:LoopOK Tryz.prog 0 zU3c1 (rcn_S1 c k i o 0 0) (.exit 2) (rcn_S1 c k i o j'100 n'101))(h2:c.be≤(n'101:Int))(h3:inR (((i+1):Nat):Int))(ei':i'=(i+1)):CodeOK Tryz.prog 0 zU3c3 (rcn_S0 c k i o.length (o.map intP)) .normal (rcn_S0 c k i' o.length (o.map intP)):=by
  subst ei'
  exact CodeOK.fin (g:=⟨(rng [(0,1),(3,1),(7,57)]),[0,1],[],[]⟩) (o:=[bT,.k 8 ⟨(rng [(0,1),(3,1),(9,2),(18,38)]),[0,1],[],[]⟩ (.exit 2) (rcn_S1 c k i o j'100 n'101),bF]) (l:=[_,_,_,_]) (by kernel_rfl) (gc h3 (gc (q_ltF h2) (gc hl1.code (gc (q_lt h0) gn))))
theorem rcn_L0_p2{c:Cup}{k:Int}{i:Nat}{o:List Int}(h0:(c.done.length:Int)≤(i:Int)):CodeOK Tryz.prog 0 zU3c3 (rcn_S0 c k i o.length (o.map intP)) (.exit 0) (rcn_S0 c k i o.length (o.map intP)):=by
  exact CodeOK.fin (g:=⟨(rng [(0,1),(3,1),(7,57)]),[0,1],[],[]⟩) (o:=[bF]) (l:=[_]) (by kernel_rfl) (gc (q_ltF h0) gn)
theorem rcn_L1_p0{c:Cup}{k:Int}{i:Nat}{o:List Int}{j n:Nat}{x200 x201:List Int}{j' n':Nat}(h0:(j:Int)<(c.done.length:Int))(h1:c.done[i]? = some x200)(h2:KL.Valid c)(h3:x200.length≤1000)(h4:∀ x∈x200,0≤x∧x≤60)(h5:0≤k∧k<x200.length)(h6:c.done[j]? = some x201)(h7:x201.length≤1000)(h8:∀ x∈x201,0≤x∧x≤60)(h9:0≤k∧k<x201.length)(h10:(scoreM c.pts x200 k.toNat)<(scoreM c.pts x201 k.toNat))(h11:inR (((n+1):Nat):Int))(h12:inR (((j+1):Nat):Int))(ej':j'=(j+1))(en':n'=(n+1)):CodeOK Tryz.prog 0 zU3c1 (rcn_S1 c k i o j n) .normal (rcn_S1 c k i o j' n'):=by
  subst ej' en'
  exact CodeOK.fin (g:=⟨(rng [(0,1),(3,1),(9,2),(18,38)]),[0,1],[],[]⟩) (o:=[bT,.x (intsP x200),.c (.p (intP (scoreM c.pts x200 k.toNat))) [],.x (intsP x201),.c (.p (intP (scoreM c.pts x201 k.toNat))) [],bT,bT,bT,bT,bT,bT]) (l:=[_,_,_,_,_,_,_,_,_,_,_,_,_,_,_]) (by kernel_rfl) (gc h12 (gc h11 (gc (q_lt h10) (gc (q_lt h10) (gc (q_lt h10) (gc (q_lt h10) (gc (q_lt h10) (gc (q_lt h10) (gc (fk 6 (rsc_ok c x201 k h2 h7 h8 h9) rfl) (gc (atm intsP h6) (gc (ixn intsP h6) (gc (fk 2 (rsc_ok c x200 k h2 h3 h4 h5) rfl) (gc (atm intsP h1) (gc (ixn intsP h1) (gc (q_lt h0) gn)))))))))))))))
theorem rcn_L1_p1{c:Cup}{k:Int}{i:Nat}{o:List Int}{j n:Nat}{x200 x201:List Int}{j' n':Nat}(h0:(j:Int)<(c.done.length:Int))(h1:c.done[i]? = some x200)(h2:KL.Valid c)(h3:x200.length≤1000)(h4:∀ x∈x200,0≤x∧x≤60)(h5:0≤k∧k<x200.length)(h6:c.done[j]? = some x201)(h7:x201.length≤1000)(h8:∀ x∈x201,0≤x∧x≤60)(h9:0≤k∧k<x201.length)(h10:(scoreM c.pts x201 k.toNat)≤(scoreM c.pts x200 k.toNat))(h11:(scoreM c.pts x201 k.toNat)=(scoreM c.pts x200 k.toNat))(h12:(j:Int)<(i:Int))(h13:inR (((n+1):Nat):Int))(h14:inR (((j+1):Nat):Int))(ej':j'=(j+1))(en':n'=(n+1)):CodeOK Tryz.prog 0 zU3c1 (rcn_S1 c k i o j n) .normal (rcn_S1 c k i o j' n'):=by
  subst ej' en'
  exact CodeOK.fin (g:=⟨(rng [(0,1),(3,1),(9,2),(18,38)]),[0,1],[],[]⟩) (o:=[bT,.x (intsP x200),.c (.p (intP (scoreM c.pts x200 k.toNat))) [],.x (intsP x201),.c (.p (intP (scoreM c.pts x201 k.toNat))) [],bF,bF,bF,bF,bT,bT,bT,bF,bT,bF,bT]) (l:=[_,_,_,_,_,_,_,_,_,_,_,_,_,_,_,_,_,_,_,_]) (by kernel_rfl) (gc h14 (gc h13 (gc (q_lt h12) (gc (q_ltF h10) (gc (q_eq h11) (gc (q_ltF h10) (gc (q_eq h11) (gc (q_eq h11) (gc (q_eq h11) (gc (q_ltF h10) (gc (q_ltF h10) (gc (q_ltF h10) (gc (q_ltF h10) (gc (fk 6 (rsc_ok c x201 k h2 h7 h8 h9) rfl) (gc (atm intsP h6) (gc (ixn intsP h6) (gc (fk 2 (rsc_ok c x200 k h2 h3 h4 h5) rfl) (gc (atm intsP h1) (gc (ixn intsP h1) (gc (q_lt h0) gn))))))))))))))))))))
theorem rcn_L1_p2{c:Cup}{k:Int}{i:Nat}{o:List Int}{j n:Nat}{x200 x201:List Int}{j':Nat}(h0:(j:Int)<(c.done.length:Int))(h1:c.done[i]? = some x200)(h2:KL.Valid c)(h3:x200.length≤1000)(h4:∀ x∈x200,0≤x∧x≤60)(h5:0≤k∧k<x200.length)(h6:c.done[j]? = some x201)(h7:x201.length≤1000)(h8:∀ x∈x201,0≤x∧x≤60)(h9:0≤k∧k<x201.length)(h10:(scoreM c.pts x201 k.toNat)≤(scoreM c.pts x200 k.toNat))(h11:(scoreM c.pts x201 k.toNat)=(scoreM c.pts x200 k.toNat))(h12:(i:Int)≤(j:Int))(h13:inR (((j+1):Nat):Int))(ej':j'=(j+1)):CodeOK Tryz.prog 0 zU3c1 (rcn_S1 c k i o j n) .normal (rcn_S1 c k i o j' n):=by
  subst ej'
  exact CodeOK.fin (g:=⟨(rng [(0,1),(3,1),(9,2),(18,38)]),[0,1],[],[]⟩) (o:=[bT,.x (intsP x200),.c (.p (intP (scoreM c.pts x200 k.toNat))) [],.x (intsP x201),.c (.p (intP (scoreM c.pts x201 k.toNat))) [],bF,bF,bF,bF,bT,bT,bT,bF,bT,bF,bF]) (l:=[_,_,_,_,_,_,_,_,_,_,_,_,_,_,_,_,_,_,_]) (by kernel_rfl) (gc h13 (gc (q_ltF h12) (gc (q_ltF h10) (gc (q_eq h11) (gc (q_ltF h10) (gc (q_eq h11) (gc (q_eq h11) (gc (q_eq h11) (gc (q_ltF h10) (gc (q_ltF h10) (gc (q_ltF h10) (gc (q_ltF h10) (gc (fk 6 (rsc_ok c x201 k h2 h7 h8 h9) rfl) (gc (atm intsP h6) (gc (ixn intsP h6) (gc (fk 2 (rsc_ok c x200 k h2 h3 h4 h5) rfl) (gc (atm intsP h1) (gc (ixn intsP h1) (gc (q_lt h0) gn)))))))))))))))))))
theorem rcn_L1_p3{c:Cup}{k:Int}{i:Nat}{o:List Int}{j n:Nat}{x200 x201:List Int}{j':Nat}(h0:(j:Int)<(c.done.length:Int))(h1:c.done[i]? = some x200)(h2:KL.Valid c)(h3:x200.length≤1000)(h4:∀ x∈x200,0≤x∧x≤60)(h5:0≤k∧k<x200.length)(h6:c.done[j]? = some x201)(h7:x201.length≤1000)(h8:∀ x∈x201,0≤x∧x≤60)(h9:0≤k∧k<x201.length)(h10:(scoreM c.pts x201 k.toNat)≤(scoreM c.pts x200 k.toNat))(h11:(scoreM c.pts x201 k.toNat)≠(scoreM c.pts x200 k.toNat))(h12:inR (((j+1):Nat):Int))(ej':j'=(j+1)):CodeOK Tryz.prog 0 zU3c1 (rcn_S1 c k i o j n) .normal (rcn_S1 c k i o j' n):=by
  subst ej'
  exact CodeOK.fin (g:=⟨(rng [(0,1),(3,1),(9,2),(18,38)]),[0,1],[],[]⟩) (o:=[bT,.x (intsP x200),.c (.p (intP (scoreM c.pts x200 k.toNat))) [],.x (intsP x201),.c (.p (intP (scoreM c.pts x201 k.toNat))) [],bF,bF,bF,bF,bF,bF,bF,bF,bF,bF]) (l:=[_,_,_,_,_,_,_,_,_,_,_,_,_,_,_,_,_,_]) (by kernel_rfl) (gc h12 (gc (q_ltF h10) (gc (q_ne h11) (gc (q_ltF h10) (gc (q_ne h11) (gc (q_ne h11) (gc (q_ne h11) (gc (q_ltF h10) (gc (q_ltF h10) (gc (q_ltF h10) (gc (q_ltF h10) (gc (fk 6 (rsc_ok c x201 k h2 h7 h8 h9) rfl) (gc (atm intsP h6) (gc (ixn intsP h6) (gc (fk 2 (rsc_ok c x200 k h2 h3 h4 h5) rfl) (gc (atm intsP h1) (gc (ixn intsP h1) (gc (q_lt h0) gn))))))))))))))))))
theorem rcn_L1_p4{c:Cup}{k:Int}{i:Nat}{o:List Int}{j n:Nat}(h0:(c.done.length:Int)≤(j:Int)):CodeOK Tryz.prog 0 zU3c1 (rcn_S1 c k i o j n) (.exit 2) (rcn_S1 c k i o j n):=by
  exact CodeOK.fin (g:=⟨(rng [(0,1),(3,1),(9,2),(18,38)]),[0,1],[],[]⟩) (o:=[bF]) (l:=[_]) (by kernel_rfl) (gc (q_ltF h0) gn)
theorem cntdR_succ(c:Cup)(s n:Nat):cntdR c s (n+1)=cntdR c s n++if (befM c s n:Int)<c.be then [(n:Int)] else []:=by
  unfold cntdR
  rw [List.range_succ,List.filter_append,List.map_append]
  by_cases e:(befM c s n:Int)<c.be
  · rw [if_pos e,List.filter_cons_of_pos (by simpa using e)];rfl
  · rw [if_neg e,List.filter_cons_of_neg (by simpa using e)];rfl
theorem cntdR_len(c:Cup)(s n:Nat):(cntdR c s n).length≤n:=by
  unfold cntdR
  rw [List.length_map]
  exact Nat.le_trans (List.length_filter_le _ _) (by simp)
theorem rcn_ok(c:Cup)(k:Int)(hV:KL.Valid c)(hk:0≤k∧k<c.sk){base:Nat}:FV Tryz.prog 53 [.p (cupP c),.p (intP k)] base (.p (intsP (countedL c k.toNat))) []:=by
  have s1:=hV.sk1
  have hd:=hV.small.done
  have b1:=hV.be1
  have hS:=hV.sk2
  have row:∀ i,i<c.done.length→∃ x,c.done[i]? = some x∧x.length≤1000∧(∀ y∈x,0≤y∧y≤60)∧(0≤k∧k<x.length)∧scoreM c.pts x k.toNat=scoreAt c i k.toNat:=fun i hi=>by
    have hx:=List.getElem?_eq_getElem hi
    have hm:=List.mem_of_getElem? hx
    have hl:=hV.len _ hm
    refine ⟨_,hx,by omega,hV.rows _ hm,⟨hk.1,by omega⟩,?_⟩
    unfold scoreAt
    rw [List.getD_eq_getElem?_getD,hx];rfl
  have inner:∀ i,i<c.done.length→∀ o:List Int,LoopOK Tryz.prog 0 zU3c1 (rcn_S1 c k i o 0 0) (.exit 2) (rcn_S1 c k i o c.done.length (befM c k.toNat i)):=fun i hi o=>by
    obtain ⟨x,x1,x2,x3,x4,x5⟩:=row i hi
    refine LoopOK.count (P:=Tryz.prog) (k:=0) (e := .exit 2) c.done.length (fun j=>rcn_S1 c k i o j ((List.range j).countP fun q=>bfB c k.toNat i q)) (fun j hj => ?_) (rcn_L1_p4 (by omega)) (by simp)
    obtain ⟨y,y1,y2,y3,y4,y5⟩:=row j hj
    have hb:((List.range j).countP fun q=>bfB c k.toNat i q)≤j:=by
      have:=List.countP_le_length (p:=fun q=>bfB c k.toNat i q) (l:=List.range j)
      simpa using this
    have es:((List.range (j+1)).countP fun q=>bfB c k.toNat i q)=((List.range j).countP fun q=>bfB c k.toNat i q)+if bfB c k.toNat i j=true then 1 else 0:=by
      rw [List.range_succ,List.countP_append,List.countP_singleton]
    by_cases e1:scoreM c.pts x k.toNat<scoreM c.pts y k.toNat
    · have eb:bfB c k.toNat i j=true:=by unfold bfB;rw [← x5,← y5];simp [e1]
      rw [if_pos eb] at es
      exact rcn_L1_p0 (by omega) x1 hV x2 x3 x4 y1 y2 y3 y4 e1 (inR_nat (by omega)) (inR_nat (by omega)) rfl es
    · by_cases e2:scoreM c.pts y k.toNat=scoreM c.pts x k.toNat
      · by_cases e3:j<i
        · have eb:bfB c k.toNat i j=true:=by unfold bfB;rw [← x5,← y5];simp [e2,e3]
          rw [if_pos eb] at es
          exact rcn_L1_p1 (by omega) x1 hV x2 x3 x4 y1 y2 y3 y4 (by omega) e2 (by omega) (inR_nat (by omega)) (inR_nat (by omega)) rfl es
        · have eb:bfB c k.toNat i j=false:=by unfold bfB;rw [← x5,← y5];simp [e2,e3]
          rw [if_neg (by rw [eb];simp),Nat.add_zero] at es
          rw [es]
          exact rcn_L1_p2 (by omega) x1 hV x2 x3 x4 y1 y2 y3 y4 (by omega) e2 (by omega) (inR_nat (by omega)) rfl
      · have eb:bfB c k.toNat i j=false:=by unfold bfB;rw [← x5,← y5];simp [e1,e2]
        rw [if_neg (by rw [eb];simp),Nat.add_zero] at es
        rw [es]
        exact rcn_L1_p3 (by omega) x1 hV x2 x3 x4 y1 y2 y3 y4 (by omega) e2 (inR_nat (by omega)) rfl
  have h:=LoopOK.count (P:=Tryz.prog) (k:=0) (b:=zU3c3) (e := .exit 0) (R:=rcn_S0 c k c.done.length (cntdR c k.toNat c.done.length).length ((cntdR c k.toNat c.done.length).map intP)) c.done.length (fun i=>rcn_S0 c k i (cntdR c k.toNat i).length ((cntdR c k.toNat i).map intP))
    (fun i hi=>by
      have es:=cntdR_succ c k.toNat i
      have hl:=cntdR_len c k.toNat i
      by_cases e:(befM c k.toNat i:Int)<c.be
      · rw [if_pos e] at es
        exact rcn_L0_p0 (o:=cntdR c k.toNat i) (o':=cntdR c k.toNat (i+1)) (by omega) (inner i hi _) e (by simp;omega) (inR_nat (by omega)) rfl (by rw [es];simp) (by rw [es];simp)
      · rw [if_neg e,List.append_nil] at es
        rw [es]
        exact rcn_L0_p1 (by omega) (inner i hi _) (by omega) (inR_nat (by omega)) rfl)
    (rcn_L0_p2 (by omega)) (by simp)
  rw [cntd_ref c k.toNat (by omega)]
  exact rcn_p0 h
def rto_S0(c:Cup)(k:Int)(i:Nat)(n:Int):St:=⟨fr 31 [(1,(.p (intP k))),(2,(.ptr 0 0)),(4,(.p (intP 0))),(5,(.p (intsP (countedL c k.toNat)))),(6,(.p (intP n))),(7,(.p (intP (i:Int))))],[some (.box 37 [(.p (intP c.sk)),(.p (intP c.ra)),(.p (intP c.be)),(.p (intsP c.pts)),(.p (rowsP c.done))])]⟩
theorem rto_p0{c:Cup}{k:Int}{i'0:Nat}{n'1:Int}(h0:KL.Valid c)(h1:0≤k∧k<c.sk)(hl2:LoopOK Tryz.prog 0 zU3c7 (rto_S0 c k 0 (0:Int)) (.exit 0) (rto_S0 c k i'0 n'1)){base:Nat}:FV Tryz.prog 52 [(.p (cupP c)),(.p (intP k))] base (.p (intP n'1)) []:=by
  exact FV.fin Tryz.func52 rfl (o:=[.c (.p (intsP (countedL c k.toNat))) [],.k 6 ⟨(rng [(0,1),(3,1),(8,22)]),[0],[],[]⟩ (.exit 0) (rto_S0 c k i'0 n'1)]) (l:=[_,_]) (by kernel_rfl) (gc hl2.code (gc (fk 1 (rcn_ok c k h0 h1) rfl) gn))
theorem rto_L0_p0{c:Cup}{k:Int}{i:Nat}{n x100:Int}{x101:List Int}{i':Nat}{n':Int}(h0:(i:Int)<(((countedL c k.toNat).length:Nat):Int))(h1:(countedL c k.toNat)[i]? = some x100)(h2:c.done[x100.toNat]? = some x101)(h3:0≤x100)(h4:KL.Valid c)(h5:x101.length≤1000)(h6:∀ x∈x101,0≤x∧x≤60)(h7:0≤k∧k<x101.length)(h8:inR (n+(scoreM c.pts x101 k.toNat)))(h9:inR (((i+1):Nat):Int))(ei':i'=(i+1))(en':n'=(n+(scoreM c.pts x101 k.toNat))):CodeOK Tryz.prog 0 zU3c7 (rto_S0 c k i n) .normal (rto_S0 c k i' n'):=by
  subst ei' en'
  exact CodeOK.fin (g:=⟨(rng [(0,1),(3,1),(8,22)]),[0],[],[]⟩) (o:=[bT,.x (intP x100),.x (intsP x101),.c (.p (intP (scoreM c.pts x101 k.toNat))) []]) (l:=[_,_,_,(c.done.map intsP)[(x100.toNat*1)]? = some (intsP x101),_,_,_,_]) (by kernel_rfl) (gc h9 (gc h8 (gc (fk 1 (rsc_ok c x101 k h4 h5 h6 h7) rfl) (gc (at_map (i:=x100.toNat) h2) (gc (ix_map (g:=intsP) h3 h2) (gc (atm intP h1) (gc (ixn intP h1) (gc (q_lt h0) gn))))))))
theorem rto_L0_p1{c:Cup}{k:Int}{i:Nat}{n:Int}(h0:(((countedL c k.toNat).length:Nat):Int)≤(i:Int)):CodeOK Tryz.prog 0 zU3c7 (rto_S0 c k i n) (.exit 0) (rto_S0 c k i n):=by
  exact CodeOK.fin (g:=⟨(rng [(0,1),(3,1),(8,22)]),[0],[],[]⟩) (o:=[bF]) (l:=[_]) (by kernel_rfl) (gc (q_ltF h0) gn)
theorem rto_ok(c:Cup)(k:Int)(hV:KL.Valid c)(hk:0≤k∧k<c.sk){base:Nat}:FV Tryz.prog 52 [.p (cupP c),.p (intP k)] base (.p (intP (totalM c k.toNat))) []:=by
  have s1:=hV.sk1
  have b1:=hV.be1
  have s2:=hV.sk2
  have hd:=hV.small.done
  obtain ⟨L,hL⟩:∃ L,L=countedL c k.toNat:=⟨_,rfl⟩
  have hll:L.length≤1000:=by
    rw [hL,cntd_ref c k.toNat (by omega)]
    exact Nat.le_trans (cntdR_len c k.toNat c.done.length) hd
  have hmem:∀ x∈L,0≤x∧x<c.done.length:=fun x hx=>by
    rw [hL,cntd_ref c k.toNat (by omega)] at hx
    unfold cntdR at hx
    obtain ⟨i,hi,rfl⟩:=List.mem_map.1 hx
    have:=List.mem_range.1 (List.mem_filter.1 hi).1
    omega
  have sb:∀ m,((L.take m).map fun i=>scoreAt c i.toNat k.toNat).sum≤1000*(min m L.length)∧0≤((L.take m).map fun i=>scoreAt c i.toNat k.toNat).sum:=fun m=>by
    have:=KL.sum_bd ((L.take m).map fun i=>scoreAt c i.toNat k.toNat) (fun x hx=>by
      obtain ⟨y,_,rfl⟩:=List.mem_map.1 hx
      exact KL.scoreM_bd _ _ _ hV.pts)
    rw [List.length_map,List.length_take] at this
    exact ⟨this.2,this.1⟩
  have h:=LoopOK.count (P:=Tryz.prog) (k:=0) (b:=zU3c7) (e := .exit 0) (R:=rto_S0 c k L.length ((L.map fun i=>scoreAt c i.toNat k.toNat).sum)) L.length (fun i=>rto_S0 c k i (((L.take i).map fun i=>scoreAt c i.toNat k.toNat).sum))
    (fun i hi=>by
      have hx:=List.getElem?_eq_getElem hi
      have hm:=hmem _ (List.mem_of_getElem? hx)
      have hr:c.done[L[i].toNat]? = some (c.done.getD L[i].toNat []):=by
        rw [List.getD_eq_getElem?_getD,List.getElem?_eq_getElem (by omega)];rfl
      have hrm:=List.mem_of_getElem? hr
      have hrl:=hV.len _ hrm
      have es:((L.take (i+1)).map fun i=>scoreAt c i.toNat k.toNat).sum=((L.take i).map fun i=>scoreAt c i.toNat k.toNat).sum+scoreM c.pts (c.done.getD L[i].toNat []) k.toNat:=by
        rw [List.take_add_one,hx,List.map_append,List.sum_append]
        simp [scoreAt]
      have q:=sb (i+1)
      exact rto_L0_p0 (by rw [← hL];omega) (by rw [← hL];exact hx) hr hm.1 hV (by omega) (hV.rows _ hrm) ⟨hk.1,by omega⟩ (by rw [← es];unfold inR;omega) (inR_nat (by omega)) rfl es)
    (by rw [List.take_length];exact rto_L0_p1 (by rw [← hL];omega)) (by simp)
  have ht:totalM c k.toNat=(L.map fun i=>scoreAt c i.toNat k.toNat).sum:=by rw [hL];rfl
  rw [ht]
  exact rto_p0 hV hk h
def oft_S0(c:Cup)(k:Int)(p:Int)(i:Nat)(n:Nat):St:=⟨fr 29 [(1,(.p (intP k))),(2,(.p (intP p))),(3,(.ptr 0 0)),(6,(.p (intP 0))),(7,(.p (intP (n:Int)))),(8,(.p (intP (i:Int))))],[some (.box 37 [(.p (intP c.sk)),(.p (intP c.ra)),(.p (intP c.be)),(.p (intsP c.pts)),(.p (rowsP c.done))])]⟩
theorem oft_p0{c:Cup}{k p:Int}{i'0 n'1:Nat}(hl0:LoopOK Tryz.prog 0 zU3c5 (oft_S0 c k p 0 0) (.exit 0) (oft_S0 c k p i'0 n'1)){base:Nat}:FV Tryz.prog 116 [(.p (cupP c)),(.p (intP k)),(.p (intP p))] base (.p (intP (n'1:Int))) []:=by
  exact FV.fin Tryz.func116 rfl (o:=[.k 8 ⟨(rng [(0,1),(4,2),(9,19)]),[0],[],[]⟩ (.exit 0) (oft_S0 c k p i'0 n'1)]) (l:=[_]) (by kernel_rfl) (gc hl0.code gn)
theorem oft_L0_p0{c:Cup}{k p:Int}{i n:Nat}{x100:List Int}{x101:Int}{i' n':Nat}(h0:(i:Int)<(c.done.length:Int))(h1:c.done[i]? = some x100)(h2:x100[k.toNat]? = some x101)(h3:0≤k)(h4:x101=p)(h5:inR (((n+1):Nat):Int))(h6:inR (((i+1):Nat):Int))(ei':i'=(i+1))(en':n'=(n+1)):CodeOK Tryz.prog 0 zU3c5 (oft_S0 c k p i n) .normal (oft_S0 c k p i' n'):=by
  subst ei' en'
  exact CodeOK.fin (g:=⟨(rng [(0,1),(4,2),(9,19)]),[0],[],[]⟩) (o:=[bT,.x (intsP x100),.x (intP x101),bT]) (l:=[_,_,_,(x100.map intP)[(k.toNat*1)]? = some (intP x101),_,_,_,_]) (by kernel_rfl) (gc h6 (gc h5 (gc (q_eq h4) (gc (at_map (i:=k.toNat) h2) (gc (ix_map (g:=intP) h3 h2) (gc (atm intsP h1) (gc (ixn intsP h1) (gc (q_lt h0) gn))))))))
theorem oft_L0_p1{c:Cup}{k p:Int}{i n:Nat}{x100:List Int}{x101:Int}{i':Nat}(h0:(i:Int)<(c.done.length:Int))(h1:c.done[i]? = some x100)(h2:x100[k.toNat]? = some x101)(h3:0≤k)(h4:x101≠p)(h5:inR (((i+1):Nat):Int))(ei':i'=(i+1)):CodeOK Tryz.prog 0 zU3c5 (oft_S0 c k p i n) .normal (oft_S0 c k p i' n):=by
  subst ei'
  exact CodeOK.fin (g:=⟨(rng [(0,1),(4,2),(9,19)]),[0],[],[]⟩) (o:=[bT,.x (intsP x100),.x (intP x101),bF]) (l:=[_,_,(x100.map intP)[(k.toNat*1)]? = some (intP x101),_,_,_,_]) (by kernel_rfl) (gc h5 (gc (q_ne h4) (gc (at_map (i:=k.toNat) h2) (gc (ix_map (g:=intP) h3 h2) (gc (atm intsP h1) (gc (ixn intsP h1) (gc (q_lt h0) gn)))))))
theorem oft_L0_p2{c:Cup}{k p:Int}{i n:Nat}(h0:(c.done.length:Int)≤(i:Int)):CodeOK Tryz.prog 0 zU3c5 (oft_S0 c k p i n) (.exit 0) (oft_S0 c k p i n):=by
  exact CodeOK.fin (g:=⟨(rng [(0,1),(4,2),(9,19)]),[0],[],[]⟩) (o:=[bF]) (l:=[_]) (by kernel_rfl) (gc (q_ltF h0) gn)
def cntI(c:Cup)(s:Nat)(p:Int):Nat:=c.done.countP fun r=>decide (r.getD s 0=p)
theorem oft_ok(c:Cup)(k p:Int)(hV:KL.Valid c)(hk:0≤k∧k<c.sk){base:Nat}:FV Tryz.prog 116 [.p (cupP c),.p (intP k),.p (intP p)] base (.p (intP ((cntI c k.toNat p:Nat):Int))) []:=by
  have hd:=hV.small.done
  have h:=LoopOK.count (P:=Tryz.prog) (k:=0) (b:=zU3c5) (e := .exit 0) (R:=oft_S0 c k p c.done.length (cntI c k.toNat p)) c.done.length (fun i=>oft_S0 c k p i ((c.done.take i).countP fun r=>decide (r.getD k.toNat 0=p)))
    (fun i hi=>by
      have hx:=List.getElem?_eq_getElem hi
      have hl:=hV.len _ (List.mem_of_getElem? hx)
      have hy:(c.done[i])[k.toNat]? = some ((c.done[i]).getD k.toNat 0):=by
        rw [List.getD_eq_getElem?_getD,List.getElem?_eq_getElem (by omega)];rfl
      have hb:((c.done.take i).countP fun r=>decide (r.getD k.toNat 0=p))≤1000:=Nat.le_trans List.countP_le_length (by simp;omega)
      have es:((c.done.take (i+1)).countP fun r=>decide (r.getD k.toNat 0=p))=((c.done.take i).countP fun r=>decide (r.getD k.toNat 0=p))+if (c.done[i]).getD k.toNat 0=p then 1 else 0:=by
        rw [List.take_succ_eq_append_getElem hi,List.countP_append,List.countP_singleton]
        simp
      by_cases e:(c.done[i]).getD k.toNat 0=p
      · rw [if_pos e] at es
        exact oft_L0_p0 (by omega) hx hy hk.1 e (inR_nat (by omega)) (inR_nat (by omega)) rfl es
      · rw [if_neg e,Nat.add_zero] at es
        rw [es]
        exact oft_L0_p1 (by omega) hx hy hk.1 e (inR_nat (by omega)) rfl)
    (by rw [List.take_length];exact oft_L0_p2 (by omega)) (by simp)
  exact oft_p0 h
def rbt_S0(c:Cup)(a:Int)(b:Int)(p:Nat):St:=⟨fr 42 [(1,(.p (intP a))),(2,(.p (intP b))),(3,(.ptr 0 0)),(9,(.p (intP (p:Int))))],[some (.box 37 [(.p (intP c.sk)),(.p (intP c.ra)),(.p (intP c.be)),(.p (intsP c.pts)),(.p (rowsP c.done))])]⟩
theorem rbt_p0{c:Cup}{a b:Int}{r0:Bool}(h0:KL.Valid c)(h1:0≤a∧a<c.sk)(h2:0≤b∧b<c.sk)(h3:(totalM c a.toNat)≠(totalM c b.toNat))(er0:r0=(decide ((totalM c a.toNat) > (totalM c b.toNat)))){base:Nat}:FV Tryz.prog 48 [(.p (cupP c)),(.p (intP a)),(.p (intP b))] base (.p (blP r0)) []:=by
  subst er0
  exact FV.fin Tryz.func48 rfl (o:=[.c (.p (intP (totalM c a.toNat))) [],.c (.p (intP (totalM c b.toNat))) [],bT]) (l:=[_,_,_]) (by kernel_rfl) (gc (q_neT h3) (gc (fk 5 (rto_ok c b h0 h2) rfl) (gc (fk 1 (rto_ok c a h0 h1) rfl) gn)))
theorem rbt_p1{c:Cup}{a b:Int}{p'0:Nat}(h0:KL.Valid c)(h1:0≤a∧a<c.sk)(h2:0≤b∧b<c.sk)(h3:(totalM c a.toNat)=(totalM c b.toNat))(hl4:LoopOK Tryz.prog 0 zU3c4 (rbt_S0 c a b 1) (.exit 0) (rbt_S0 c a b p'0)){base:Nat}:FV Tryz.prog 48 [(.p (cupP c)),(.p (intP a)),(.p (intP b))] base (.p (blP false)) []:=by
  exact FV.fin Tryz.func48 rfl (o:=[.c (.p (intP (totalM c a.toNat))) [],.c (.p (intP (totalM c b.toNat))) [],bF,.k 4 ⟨(rng [(0,1),(4,5),(10,32)]),[0],[],[]⟩ (.exit 0) (rbt_S0 c a b p'0)]) (l:=[_,_,_,_]) (by kernel_rfl) (gc hl4.code (gc (q_neF h3) (gc (fk 5 (rto_ok c b h0 h2) rfl) (gc (fk 1 (rto_ok c a h0 h1) rfl) gn))))
theorem rbt_p2{c:Cup}{a b:Int}{p'0:Nat}{r0:Bool}(h0:KL.Valid c)(h1:0≤a∧a<c.sk)(h2:0≤b∧b<c.sk)(h3:(totalM c a.toNat)=(totalM c b.toNat))(hl4:LoopOK Tryz.prog 0 zU3c4 (rbt_S0 c a b 1) .ret (setS (rbt_S0 c a b p'0) [(6,(.p (blP (decide (((cntI c b.toNat (p'0:Int):Nat):Int)<((cntI c a.toNat (p'0:Int):Nat):Int))))))]))(er0:r0=(decide (((cntI c b.toNat (p'0:Int):Nat):Int)<((cntI c a.toNat (p'0:Int):Nat):Int)))){base:Nat}:FV Tryz.prog 48 [(.p (cupP c)),(.p (intP a)),(.p (intP b))] base (.p (blP r0)) []:=by
  subst er0
  exact FV.fin Tryz.func48 rfl (o:=[.c (.p (intP (totalM c a.toNat))) [],.c (.p (intP (totalM c b.toNat))) [],bF,.k 4 ⟨(rng [(0,1),(4,5),(10,32)]),[0],[],[]⟩ .ret (setS (rbt_S0 c a b p'0) [(6,(.p (blP (decide (((cntI c b.toNat (p'0:Int):Nat):Int)<((cntI c a.toNat (p'0:Int):Nat):Int))))))])]) (l:=[_,_,_,_]) (by kernel_rfl) (gc hl4.code (gc (q_neF h3) (gc (fk 5 (rto_ok c b h0 h2) rfl) (gc (fk 1 (rto_ok c a h0 h1) rfl) gn))))
theorem rbt_L0_p0{c:Cup}{a b:Int}{p:Nat}(h0:(p:Int)≤(60:Int))(h1:KL.Valid c)(h2:0≤a∧a<c.sk)(h3:0≤b∧b<c.sk)(h4:((cntI c a.toNat (p:Int):Nat):Int)≠((cntI c b.toNat (p:Int):Nat):Int)):CodeOK Tryz.prog 0 zU3c4 (rbt_S0 c a b p) .ret (setS (rbt_S0 c a b p) [(6,(.p (blP (decide (((cntI c a.toNat (p:Int):Nat):Int) > ((cntI c b.toNat (p:Int):Nat):Int))))))]):=by
  exact CodeOK.fin (g:=⟨(rng [(0,1),(4,2),(7,2),(10,32)]),[0],[],[]⟩) (o:=[bT,.c (.p (intP ((cntI c a.toNat (p:Int):Nat):Int))) [],.c (.p (intP ((cntI c b.toNat (p:Int):Nat):Int))) [],bT]) (l:=[_,_,_,_]) (by kernel_rfl) (gc (q_neT h4) (gc (fk 5 (oft_ok c b (p:Int) h1 h3) rfl) (gc (fk 1 (oft_ok c a (p:Int) h1 h2) rfl) (gc (q_le h0) gn))))
theorem rbt_L0_p1{c:Cup}{a b:Int}{p p':Nat}(h0:(p:Int)≤(60:Int))(h1:KL.Valid c)(h2:0≤a∧a<c.sk)(h3:0≤b∧b<c.sk)(h4:((cntI c a.toNat (p:Int):Nat):Int)=((cntI c b.toNat (p:Int):Nat):Int))(h5:inR (((p+1):Nat):Int))(ep':p'=(p+1)):CodeOK Tryz.prog 0 zU3c4 (rbt_S0 c a b p) .normal (rbt_S0 c a b p'):=by
  subst ep'
  exact CodeOK.fin (g:=⟨(rng [(0,1),(4,5),(10,32)]),[0],[],[]⟩) (o:=[bT,.c (.p (intP ((cntI c a.toNat (p:Int):Nat):Int))) [],.c (.p (intP ((cntI c b.toNat (p:Int):Nat):Int))) [],bF]) (l:=[_,_,_,_,_]) (by kernel_rfl) (gc h5 (gc (q_neF h4) (gc (fk 5 (oft_ok c b (p:Int) h1 h3) rfl) (gc (fk 1 (oft_ok c a (p:Int) h1 h2) rfl) (gc (q_le h0) gn)))))
theorem rbt_L0_p2{c:Cup}{a b:Int}{p:Nat}(h0:(60:Int)<(p:Int)):CodeOK Tryz.prog 0 zU3c4 (rbt_S0 c a b p) (.exit 0) (rbt_S0 c a b p):=by
  exact CodeOK.fin (g:=⟨(rng [(0,1),(4,5),(10,32)]),[0],[],[]⟩) (o:=[bF]) (l:=[_]) (by kernel_rfl) (gc (q_leF h0) gn)
theorem rbt_ok(c:Cup)(a b:Int)(hV:KL.Valid c)(ha:0≤a∧a<c.sk)(hb:0≤b∧b<c.sk){base:Nat}:FV Tryz.prog 48 [.p (cupP c),.p (intP a),.p (intP b)] base (.p (blP (betS c a.toNat b.toNat))) []:=by
  unfold betS KL.betterF
  by_cases h0:totalM c a.toNat=totalM c b.toNat
  · rw [if_pos h0]
    have pl:∀ (s i:Nat),i<60→(placesM c s).getD (i+1) 0=((cntI c s ((i+1:Nat):Int):Nat):Int):=fun s i hi=>places_at (by omega) (by omega)
    rcases LoopOK.find (P:=Tryz.prog) (k:=0) (b:=zU3c4) (fun i=>rbt_S0 c a b (i+1)) (fun i _=>setS (rbt_S0 c a b (i+1)) [(6,.p (blP (decide (((cntI c b.toNat ((i+1:Nat):Int):Nat):Int)<((cntI c a.toNat ((i+1:Nat):Int):Nat):Int)))))]) (rbt_S0 c a b 61) .ret (.exit 0) (by simp) (by simp) (fun i=>decide (cntI c a.toNat ((i+1:Nat):Int)≠cntI c b.toNat ((i+1:Nat):Int))) (List.range 60)
      (fun i x hx hp=>by
        obtain ⟨rfl,hi⟩:=range_at hx
        have hp':cntI c a.toNat ((x+1:Nat):Int)=cntI c b.toNat ((x+1:Nat):Int):=by simpa using hp
        exact rbt_L0_p1 (by omega) hV ha hb (by rw [hp']) (inR_nat (by omega)) rfl)
      (fun i x hx hp=>by
        obtain ⟨rfl,hi⟩:=range_at hx
        have hp':cntI c a.toNat ((x+1:Nat):Int)≠cntI c b.toNat ((x+1:Nat):Int):=by simpa using hp
        exact rbt_L0_p0 (by omega) hV ha hb (by omega))
      (by rw [List.length_range];exact rbt_L0_p2 (by omega)) with ⟨i,x,h1,h2,h3,h4⟩ | ⟨h1,h2,h3⟩
    · obtain ⟨rfl,hi⟩:=range_at h1
      have h3':cntI c a.toNat ((x+1:Nat):Int)≠cntI c b.toNat ((x+1:Nat):Int):=by simpa using h3
      obtain ⟨_,_,hbf⟩:=List.findIdx?_eq_some_iff_getElem.1 h2
      rw [lex_first hi (by rw [pl _ _ hi,pl _ _ hi];omega) (fun j hj=>by
        have:=hbf j hj
        rw [List.getElem_range] at this
        have e:cntI c a.toNat ((j+1:Nat):Int)=cntI c b.toNat ((j+1:Nat):Int):=by simpa using this
        rw [pl _ _ (by omega),pl _ _ (by omega),e]),pl _ _ hi,pl _ _ hi]
      exact rbt_p2 hV ha hb h0 h4 rfl
    · rw [lex_none (fun j hj=>by
        have:=List.any_eq_false.1 h2 j (List.mem_range.2 hj)
        have e:cntI c a.toNat ((j+1:Nat):Int)=cntI c b.toNat ((j+1:Nat):Int):=by simpa using this
        rw [pl _ _ hj,pl _ _ hj,e])]
      exact rbt_p1 hV ha hb h0 h3
  · rw [if_neg h0]
    exact rbt_p0 hV ha hb h0 rfl
def rrk_S0(c:Cup)(k:Int)(s:Nat)(n:Int):St:=⟨fr 20 [(1,(.p (intP k))),(2,(.ptr 0 0)),(4,(.p (intP 0))),(5,(.p (intP n))),(6,(.p (intP (s:Int))))],[some (.box 37 [(.p (intP c.sk)),(.p (intP c.ra)),(.p (intP c.be)),(.p (intsP c.pts)),(.p (rowsP c.done))])]⟩
theorem rrk_p0{c:Cup}{k:Int}{s'0:Nat}{n'1:Int}(hl0:LoopOK Tryz.prog 0 zU3c6 (rrk_S0 c k 0 (1:Int)) (.exit 0) (rrk_S0 c k s'0 n'1)){base:Nat}:FV Tryz.prog 61 [(.p (cupP c)),(.p (intP k))] base (.p (intP n'1)) []:=by
  exact FV.fin Tryz.func61 rfl (o:=[.k 8 ⟨(rng [(0,1),(3,1),(7,12)]),[0],[],[]⟩ (.exit 0) (rrk_S0 c k s'0 n'1)]) (l:=[_]) (by kernel_rfl) (gc hl0.code gn)
theorem rrk_L0_p0{c:Cup}{k:Int}{s:Nat}{n:Int}{s':Nat}{n':Int}(h0:(s:Int)<c.sk)(h1:KL.Valid c)(h2:0≤(s:Int)∧(s:Int)<c.sk)(h3:0≤k∧k<c.sk)(h4:(betS c (s:Int).toNat k.toNat)=true)(h5:inR (n+(1:Int)))(h6:inR (((s+1):Nat):Int))(es':s'=(s+1))(en':n'=(n+(1:Int))):CodeOK Tryz.prog 0 zU3c6 (rrk_S0 c k s n) .normal (rrk_S0 c k s' n'):=by
  subst es' en'
  exact CodeOK.fin (g:=⟨(rng [(0,1),(3,1),(7,12)]),[0],[],[]⟩) (o:=[bT,.c (.p (blP (betS c (s:Int).toNat k.toNat))) [],bT]) (l:=[_,_,_,_,_]) (by kernel_rfl) (gc h6 (gc h5 (gc h4 (gc (fk 1 (rbt_ok c (s:Int) k h1 h2 h3) rfl) (gc (q_lt h0) gn)))))
theorem rrk_L0_p1{c:Cup}{k:Int}{s:Nat}{n:Int}{s':Nat}(h0:(s:Int)<c.sk)(h1:KL.Valid c)(h2:0≤(s:Int)∧(s:Int)<c.sk)(h3:0≤k∧k<c.sk)(h4:(betS c (s:Int).toNat k.toNat)=false)(h5:inR (((s+1):Nat):Int))(es':s'=(s+1)):CodeOK Tryz.prog 0 zU3c6 (rrk_S0 c k s n) .normal (rrk_S0 c k s' n):=by
  subst es'
  exact CodeOK.fin (g:=⟨(rng [(0,1),(3,1),(7,12)]),[0],[],[]⟩) (o:=[bT,.c (.p (blP (betS c (s:Int).toNat k.toNat))) [],bF]) (l:=[_,_,_,_]) (by kernel_rfl) (gc h5 (gc h4 (gc (fk 1 (rbt_ok c (s:Int) k h1 h2 h3) rfl) (gc (q_lt h0) gn))))
theorem rrk_L0_p2{c:Cup}{k:Int}{s:Nat}{n:Int}(h0:c.sk≤(s:Int)):CodeOK Tryz.prog 0 zU3c6 (rrk_S0 c k s n) (.exit 0) (rrk_S0 c k s n):=by
  exact CodeOK.fin (g:=⟨(rng [(0,1),(3,1),(7,12)]),[0],[],[]⟩) (o:=[bF]) (l:=[_]) (by kernel_rfl) (gc (q_ltF h0) gn)
theorem rrk_ok(c:Cup)(k:Int)(hV:KL.Valid c)(hk:0≤k∧k<c.sk){base:Nat}:FV Tryz.prog 61 [.p (cupP c),.p (intP k)] base (.p (intP (rankM c k.toNat))) []:=by
  have s1:=hV.sk1
  have s2:=hV.sk2
  have h:=LoopOK.count (P:=Tryz.prog) (k:=0) (b:=zU3c6) (e := .exit 0) (R:=rrk_S0 c k c.sk.toNat (bttrUp c k.toNat c.sk.toNat)) c.sk.toNat (fun i=>rrk_S0 c k i (bttrUp c k.toNat i))
    (fun i hi=>by
      have hb:1≤bttrUp c k.toNat i∧bttrUp c k.toNat i≤1+i:=by
        unfold bttrUp
        have:=List.countP_le_length (p:=fun x=>betS c x k.toNat) (l:=List.range i)
        rw [List.length_range] at this
        omega
      have es:bttrUp c k.toNat (i+1)=bttrUp c k.toNat i+if betS c i k.toNat=true then 1 else 0:=by
        unfold bttrUp
        rw [List.range_succ,List.countP_append,List.countP_singleton]
        split <;> omega
      cases e:betS c i k.toNat with
      | true =>
        rw [if_pos e] at es
        exact rrk_L0_p0 (by omega) hV (by omega) hk e (by unfold inR;omega) (inR_nat (by omega)) rfl es
      | false =>
        rw [if_neg (by rw [e];simp),Int.add_zero] at es
        rw [es]
        exact rrk_L0_p1 (by omega) hV (by omega) hk e (inR_nat (by omega)) rfl)
    (rrk_L0_p2 (by omega)) (by simp)
  rw [rank_ref]
  have e0:bttrUp c k.toNat 0=1:=by unfold bttrUp;simp
  rw [e0] at h
  exact rrk_p0 h
theorem rwi_p0{c:Cup}{f:List (List Int)}{r0n:Nat}{r0c:List PV}(h0:(c.done.map intsP).length=c.done.length*1∧0+c.done.length≤1000000)(h1:(f.map intsP).length=f.length*1∧(0+c.done.length)+f.length≤1000000)(er0n:r0n=((0+c.done.length)+f.length))(er0c:r0c=((c.done.map intsP)++(f.map intsP))){base:Nat}:FV Tryz.prog 77 [(.p (cupP c)),(.p (rowsP f))] base (.p (.agg [(intP c.sk),(intP c.ra),(intP c.be),(intsP c.pts),(.sl r0n r0c)])) []:=by
  subst er0n er0c
  exact FV.frz (FMM.fin (k:=0) (g:=⟨[],[],[5],[]⟩) rfl Tryz.func77 rfl (o:=[]) (l:=[_,_]) (by kernel_rfl) (gc h1 (gc h0 gn))) (by kernel_rfl)
theorem rwi_ok(c:Cup)(f:List (List Int))(h:c.done.length+f.length≤1000){base:Nat}:FV Tryz.prog 77 [.p (cupP c),.p (rowsP f)] base (.p (cupP (withC c f))) [] :=
  rwi_p0 (r0n:=(c.done++f).length) (r0c:=(c.done++f).map intsP) (by simp;omega) (by simp;omega) (by simp) (by simp)
theorem raf_p1{c:Cup}{f:List (List Int)}{r0:Int}(h0:KL.Small c)(h1:(checkP c)=(0:Int))(h2:c.done.length+f.length≤1000)(h3:KL.Small (withC c f))(h4:(checkP (withC c f))≠(0:Int))(er0:r0=(checkP (withC c f))){base:Nat}:FV Tryz.prog 45 [(.p (cupP c)),(.p (rowsP f))] base (.tup [(.p (.agg [(intP 0),(intP 0),(intP 0),nilS,nilS])),(.p (intP r0))]) []:=by
  subst er0
  exact FV.fin Tryz.func45 rfl (o:=[.c (.p (intP (checkP c))) [],bF,.c (.p (.agg [(intP ((withC c f).sk)),(intP ((withC c f).ra)),(intP ((withC c f).be)),(intsP ((withC c f).pts)),(rowsP ((withC c f).done))])) [],.c (.p (intP (checkP (withC c f)))) [],bT]) (l:=[_,_,_,_,_]) (by kernel_rfl) (gc (q_neT h4) (gc (fk 3 (chk_ok (withC c f) h3) rfl) (gc (fk 2 (rwi_ok c f h2) rfl) (gc (q_neF h1) (gc (fk 2 (chk_ok c h0) rfl) gn)))))
theorem raf_p2{c:Cup}{f:List (List Int)}(h0:KL.Small c)(h1:(checkP c)=(0:Int))(h2:c.done.length+f.length≤1000)(h3:KL.Small (withC c f))(h4:(checkP (withC c f))=(0:Int)){base:Nat}:FV Tryz.prog 45 [(.p (cupP c)),(.p (rowsP f))] base (.tup [(.p (.agg [(intP ((withC c f).sk)),(intP ((withC c f).ra)),(intP ((withC c f).be)),(intsP ((withC c f).pts)),(rowsP ((withC c f).done))])),(.p (intP 0))]) []:=by
  exact FV.fin Tryz.func45 rfl (o:=[.c (.p (intP (checkP c))) [],bF,.c (.p (.agg [(intP ((withC c f).sk)),(intP ((withC c f).ra)),(intP ((withC c f).be)),(intsP ((withC c f).pts)),(rowsP ((withC c f).done))])) [],.c (.p (intP (checkP (withC c f)))) [],bF]) (l:=[_,_,_,_,_]) (by kernel_rfl) (gc (q_neF h4) (gc (fk 3 (chk_ok (withC c f) h3) rfl) (gc (fk 2 (rwi_ok c f h2) rfl) (gc (q_neF h1) (gc (fk 2 (chk_ok c h0) rfl) gn)))))
abbrev zeroC:PV := .agg [intP 0,intP 0,intP 0,nilS,nilS]
theorem raf_e2(c:Cup)(f:List (List Int))(hV:KL.Valid c)(hS:KL.Small (withC c f))(h:checkP (withC c f)≠0){base:Nat}:FV Tryz.prog 45 [.p (cupP c),.p (rowsP f)] base (.tup [.p zeroC,.p (intP (checkP (withC c f)))]) [] :=
  raf_p1 hV.small ((KL.valid_iff c).2 hV) (by have:=hS.done;rwa [show (withC c f).done=c.done++f from rfl,List.length_append] at this) hS h rfl
theorem raf_ok(c:Cup)(f:List (List Int))(hV:KL.Valid c)(hW:KL.Valid (withC c f)){base:Nat}:FV Tryz.prog 45 [.p (cupP c),.p (rowsP f)] base (.tup [.p (cupP (withC c f)),.p (intP 0)]) [] :=
  raf_p2 hV.small ((KL.valid_iff c).2 hV) (by have:=hW.small.done;rwa [show (withC c f).done=c.done++f from rfl,List.length_append] at this) hW.small ((KL.valid_iff _).2 hW)
def grt_S0(c:Cup)(i:Nat):St:=⟨fr 39 [(29,(.p (rowsP c.done))),(30,(.p (intP (c.done.length:Int)))),(31,(.p (intP (i:Int))))],[]⟩
theorem grt_p0{c:Cup}{k:Int}(h0:k<c.sk)(h1:c.sk≤(12:Int)){base:Nat}:FV Tryz.prog 18 [(.p (cupP c)),(.p (intP k))] base (.p (blP true)) []:=by
  exact FV.fin Tryz.func18 rfl (o:=[bT,bT,bT,bT,bT,bT,bT,bT,bT]) (l:=[_,_,_,_,_,_,_,_,_]) (by kernel_rfl) (gc (q_le h1) (gc (q_le h1) (gc (q_le h1) (gc (q_le h1) (gc (q_le h1) (gc (q_lt h0) (gc (q_lt h0) (gc (q_lt h0) (gc (q_lt h0) gn)))))))))
theorem grt_p1{c:Cup}{k:Int}(h0:k<c.sk)(h1:(12:Int)<c.sk)(h2:(65:Int)<(c.pts.length:Int)){base:Nat}:FV Tryz.prog 18 [(.p (cupP c)),(.p (intP k))] base (.p (blP true)) []:=by
  exact FV.fin Tryz.func18 rfl (o:=[bT,bT,bT,bT,bF,bF,bF,bF,bF,bT,bT,bT,bT,bT]) (l:=[_,_,_,_,_,_,_,_,_,_,_,_,_,_]) (by kernel_rfl) (gc (q_lt h2) (gc (q_lt h2) (gc (q_lt h2) (gc (q_lt h2) (gc (q_lt h2) (gc (q_leF h1) (gc (q_leF h1) (gc (q_leF h1) (gc (q_leF h1) (gc (q_leF h1) (gc (q_lt h0) (gc (q_lt h0) (gc (q_lt h0) (gc (q_lt h0) gn))))))))))))))
theorem grt_p2{c:Cup}{k:Int}(h0:k<c.sk)(h1:(12:Int)<c.sk)(h2:(c.pts.length:Int)≤(65:Int))(h3:(25:Int)<(c.done.length:Int)){base:Nat}:FV Tryz.prog 18 [(.p (cupP c)),(.p (intP k))] base (.p (blP true)) []:=by
  exact FV.fin Tryz.func18 rfl (o:=[bT,bT,bT,bT,bF,bF,bF,bF,bF,bF,bF,bF,bF,bF,bT]) (l:=[_,_,_,_,_,_,_,_,_,_,_,_,_,_,_]) (by kernel_rfl) (gc (q_lt h3) (gc (q_ltF h2) (gc (q_ltF h2) (gc (q_ltF h2) (gc (q_ltF h2) (gc (q_ltF h2) (gc (q_leF h1) (gc (q_leF h1) (gc (q_leF h1) (gc (q_leF h1) (gc (q_leF h1) (gc (q_lt h0) (gc (q_lt h0) (gc (q_lt h0) (gc (q_lt h0) gn)))))))))))))))
theorem grt_p3{c:Cup}{k:Int}{i'0:Nat}(h0:k<c.sk)(h1:(12:Int)<c.sk)(h2:(c.pts.length:Int)≤(65:Int))(h3:(c.done.length:Int)≤(25:Int))(hl4:LoopOK Tryz.prog 0 zU3c0 (grt_S0 c 0) (.exit 0) (grt_S0 c i'0)){base:Nat}:FV Tryz.prog 18 [(.p (cupP c)),(.p (intP k))] base (.p (blP false)) []:=by
  exact FV.fin Tryz.func18 rfl (o:=[bT,bT,bT,bT,bF,bF,bF,bF,bF,bF,bF,bF,bF,bF,bF,.k 4 ⟨(rng [(0,29),(32,7)]),[],[],[]⟩ (.exit 0) (grt_S0 c i'0)]) (l:=[_,_,_,_,_,_,_,_,_,_,_,_,_,_,_,_]) (by kernel_rfl) (gc hl4.code (gc (q_ltF h3) (gc (q_ltF h2) (gc (q_ltF h2) (gc (q_ltF h2) (gc (q_ltF h2) (gc (q_ltF h2) (gc (q_leF h1) (gc (q_leF h1) (gc (q_leF h1) (gc (q_leF h1) (gc (q_leF h1) (gc (q_lt h0) (gc (q_lt h0) (gc (q_lt h0) (gc (q_lt h0) gn))))))))))))))))
theorem grt_p4{c:Cup}{k:Int}{i'0:Nat}(h0:k<c.sk)(h1:(12:Int)<c.sk)(h2:(c.pts.length:Int)≤(65:Int))(h3:(c.done.length:Int)≤(25:Int))(hl4:LoopOK Tryz.prog 0 zU3c0 (grt_S0 c 0) .ret (setS (grt_S0 c i'0) [(4,(.kb true))])){base:Nat}:FV Tryz.prog 18 [(.p (cupP c)),(.p (intP k))] base (.p (blP true)) []:=by
  exact FV.fin Tryz.func18 rfl (o:=[bT,bT,bT,bT,bF,bF,bF,bF,bF,bF,bF,bF,bF,bF,bF,.k 4 ⟨(rng [(0,29),(32,7)]),[],[],[]⟩ .ret (setS (grt_S0 c i'0) [(4,(.kb true))])]) (l:=[_,_,_,_,_,_,_,_,_,_,_,_,_,_,_,_]) (by kernel_rfl) (gc hl4.code (gc (q_ltF h3) (gc (q_ltF h2) (gc (q_ltF h2) (gc (q_ltF h2) (gc (q_ltF h2) (gc (q_ltF h2) (gc (q_leF h1) (gc (q_leF h1) (gc (q_leF h1) (gc (q_leF h1) (gc (q_leF h1) (gc (q_lt h0) (gc (q_lt h0) (gc (q_lt h0) (gc (q_lt h0) gn))))))))))))))))
theorem grt_p5{c:Cup}{k:Int}(h0:c.sk≤k)(h1:(65:Int)<(c.pts.length:Int)){base:Nat}:FV Tryz.prog 18 [(.p (cupP c)),(.p (intP k))] base (.p (blP true)) []:=by
  exact FV.fin Tryz.func18 rfl (o:=[bF,bF,bF,bF,bT,bT,bT,bT,bT]) (l:=[_,_,_,_,_,_,_,_,_]) (by kernel_rfl) (gc (q_lt h1) (gc (q_lt h1) (gc (q_lt h1) (gc (q_lt h1) (gc (q_lt h1) (gc (q_ltF h0) (gc (q_ltF h0) (gc (q_ltF h0) (gc (q_ltF h0) gn)))))))))
theorem grt_p6{c:Cup}{k:Int}(h0:c.sk≤k)(h1:(c.pts.length:Int)≤(65:Int))(h2:(25:Int)<(c.done.length:Int)){base:Nat}:FV Tryz.prog 18 [(.p (cupP c)),(.p (intP k))] base (.p (blP true)) []:=by
  exact FV.fin Tryz.func18 rfl (o:=[bF,bF,bF,bF,bF,bF,bF,bF,bF,bT]) (l:=[_,_,_,_,_,_,_,_,_,_]) (by kernel_rfl) (gc (q_lt h2) (gc (q_ltF h1) (gc (q_ltF h1) (gc (q_ltF h1) (gc (q_ltF h1) (gc (q_ltF h1) (gc (q_ltF h0) (gc (q_ltF h0) (gc (q_ltF h0) (gc (q_ltF h0) gn))))))))))
theorem grt_p7{c:Cup}{k:Int}{i'0:Nat}(h0:c.sk≤k)(h1:(c.pts.length:Int)≤(65:Int))(h2:(c.done.length:Int)≤(25:Int))(hl3:LoopOK Tryz.prog 0 zU3c0 (grt_S0 c 0) (.exit 0) (grt_S0 c i'0)){base:Nat}:FV Tryz.prog 18 [(.p (cupP c)),(.p (intP k))] base (.p (blP false)) []:=by
  exact FV.fin Tryz.func18 rfl (o:=[bF,bF,bF,bF,bF,bF,bF,bF,bF,bF,.k 4 ⟨(rng [(0,29),(32,7)]),[],[],[]⟩ (.exit 0) (grt_S0 c i'0)]) (l:=[_,_,_,_,_,_,_,_,_,_,_]) (by kernel_rfl) (gc hl3.code (gc (q_ltF h2) (gc (q_ltF h1) (gc (q_ltF h1) (gc (q_ltF h1) (gc (q_ltF h1) (gc (q_ltF h1) (gc (q_ltF h0) (gc (q_ltF h0) (gc (q_ltF h0) (gc (q_ltF h0) gn)))))))))))
theorem grt_p8{c:Cup}{k:Int}{i'0:Nat}(h0:c.sk≤k)(h1:(c.pts.length:Int)≤(65:Int))(h2:(c.done.length:Int)≤(25:Int))(hl3:LoopOK Tryz.prog 0 zU3c0 (grt_S0 c 0) .ret (setS (grt_S0 c i'0) [(4,(.kb true))])){base:Nat}:FV Tryz.prog 18 [(.p (cupP c)),(.p (intP k))] base (.p (blP true)) []:=by
  exact FV.fin Tryz.func18 rfl (o:=[bF,bF,bF,bF,bF,bF,bF,bF,bF,bF,.k 4 ⟨(rng [(0,29),(32,7)]),[],[],[]⟩ .ret (setS (grt_S0 c i'0) [(4,(.kb true))])]) (l:=[_,_,_,_,_,_,_,_,_,_,_]) (by kernel_rfl) (gc hl3.code (gc (q_ltF h2) (gc (q_ltF h1) (gc (q_ltF h1) (gc (q_ltF h1) (gc (q_ltF h1) (gc (q_ltF h1) (gc (q_ltF h0) (gc (q_ltF h0) (gc (q_ltF h0) (gc (q_ltF h0) gn)))))))))))
theorem grt_L0_p0{c:Cup}{i:Nat}{x100:List Int}(h0:(i:Int)<(c.done.length:Int))(h1:c.done[i]? = some x100)(h2:(16:Int)<(x100.length:Int)):CodeOK Tryz.prog 0 zU3c0 (grt_S0 c i) .ret (setS (grt_S0 c i) [(4,(.kb true))]):=by
  exact CodeOK.fin (g:=⟨(rng [(0,4),(5,24),(32,7)]),[],[],[]⟩) (o:=[bT,.x (intsP x100),bT]) (l:=[_,_,_,_]) (by kernel_rfl) (gc (q_lt h2) (gc (atm intsP h1) (gc (ixn intsP h1) (gc (q_lt h0) gn))))
theorem grt_L0_p1{c:Cup}{i:Nat}{x100:List Int}{i':Nat}(h0:(i:Int)<(c.done.length:Int))(h1:c.done[i]? = some x100)(h2:(x100.length:Int)≤(16:Int))(h3:inR (((i+1):Nat):Int))(ei':i'=(i+1)):CodeOK Tryz.prog 0 zU3c0 (grt_S0 c i) .normal (grt_S0 c i'):=by
  subst ei'
  exact CodeOK.fin (g:=⟨(rng [(0,29),(32,7)]),[],[],[]⟩) (o:=[bT,.x (intsP x100),bF]) (l:=[_,_,_,_,_]) (by kernel_rfl) (gc h3 (gc (q_ltF h2) (gc (atm intsP h1) (gc (ixn intsP h1) (gc (q_lt h0) gn)))))
theorem grt_L0_p2{c:Cup}{i:Nat}(h0:(c.done.length:Int)≤(i:Int)):CodeOK Tryz.prog 0 zU3c0 (grt_S0 c i) (.exit 0) (grt_S0 c i):=by
  exact CodeOK.fin (g:=⟨(rng [(0,29),(32,7)]),[],[],[]⟩) (o:=[bF]) (l:=[_]) (by kernel_rfl) (gc (q_ltF h0) gn)
def grtB(c:Cup)(k:Int):Bool:=(decide (k<c.sk) && decide (c.sk≤12)) || decide (65<c.pts.length) || decide (25<c.done.length) || c.done.any fun r=>decide (16<r.length)
theorem grt_loop(c:Cup)(hl:c.done.length≤25):((c.done.any fun r=>decide (16<r.length))=true∧∃ i,LoopOK Tryz.prog 0 zU3c0 (grt_S0 c 0) .ret (setS (grt_S0 c i) [(4,.kb true)]))∨((c.done.any fun r=>decide (16<r.length))=false∧∃ i,LoopOK Tryz.prog 0 zU3c0 (grt_S0 c 0) (.exit 0) (grt_S0 c i)):=by
  rcases LoopOK.find (P:=Tryz.prog) (k:=0) (b:=zU3c0) (fun i=>grt_S0 c i) (fun i _=>setS (grt_S0 c i) [(4,.kb true)]) (grt_S0 c c.done.length) .ret (.exit 0) (by simp) (by simp) (fun r:List Int=>decide (16<r.length)) c.done
    (fun i x hx hp=>grt_L0_p1 (by have:=lt_of_at hx;omega) hx (by have:=of_decide_eq_false hp;omega) (inR_nat (by have:=lt_of_at hx;omega)) rfl)
    (fun i x hx hp=>grt_L0_p0 (by have:=lt_of_at hx;omega) hx (by have:=of_decide_eq_true hp;omega))
    (grt_L0_p2 (by omega)) with ⟨j,y,g1,g2,g3,g4⟩ | ⟨_,g1,g2⟩
  · exact .inl ⟨List.any_eq_true.2 ⟨y,List.mem_of_getElem? g1,g3⟩,_,g4⟩
  · exact .inr ⟨g1,_,g2⟩
theorem grt_ok(c:Cup)(k:Int){base:Nat}:FV Tryz.prog 18 [.p (cupP c),.p (intP k)] base (.p (blP (grtB c k))) []:=by
  unfold grtB
  by_cases a1:k<c.sk
  · by_cases a2:c.sk≤12
    · simp only [a1,a2,decide_true,Bool.and_true,Bool.true_or]
      exact grt_p0 a1 a2
    · by_cases a3:65<c.pts.length
      · simp only [a2,a3,decide_true,decide_false,Bool.and_false,Bool.false_or,Bool.true_or]
        exact grt_p1 a1 (by omega) (by omega)
      · by_cases a4:25<c.done.length
        · simp only [a2,a3,a4,decide_true,decide_false,Bool.and_false,Bool.false_or,Bool.true_or]
          exact grt_p2 a1 (by omega) (by omega) (by omega)
        · simp only [a2,a3,a4,decide_false,Bool.and_false,Bool.false_or]
          rcases grt_loop c (by omega) with ⟨e,i,h⟩ | ⟨e,i,h⟩
          · rw [e];exact grt_p4 a1 (by omega) (by omega) (by omega) h
          · rw [e];exact grt_p3 a1 (by omega) (by omega) (by omega) h
  · by_cases a3:65<c.pts.length
    · simp only [a1,a3,decide_true,decide_false,Bool.false_and,Bool.false_or,Bool.true_or]
      exact grt_p5 (by omega) (by omega)
    · by_cases a4:25<c.done.length
      · simp only [a1,a3,a4,decide_true,decide_false,Bool.false_and,Bool.false_or,Bool.true_or]
        exact grt_p6 (by omega) (by omega) (by omega)
      · simp only [a1,a3,a4,decide_false,Bool.false_and,Bool.false_or]
        rcases grt_loop c (by omega) with ⟨e,i,h⟩ | ⟨e,i,h⟩
        · rw [e];exact grt_p8 (by omega) (by omega) (by omega) h
        · rw [e];exact grt_p7 (by omega) (by omega) (by omega) h
theorem grt_small{c:Cup}{k:Int}(h:grtB c k=false):KL.Small c∧c.pts.length≤65∧c.done.length≤25∧(∀ r∈c.done,r.length≤16)∧(c.sk≤k∨12<c.sk):=by
  unfold grtB at h
  simp only [Bool.or_eq_false_iff,Bool.and_eq_false_iff,decide_eq_false_iff_not,List.any_eq_false,decide_eq_true_eq] at h
  obtain ⟨⟨⟨h1,h2⟩,h3⟩,h4⟩:=h
  have h5:∀ r∈c.done,r.length≤16:=fun r hr=>by have:=h4 r hr;omega
  exact ⟨⟨by omega,by omega,fun r hr=>by have:=h5 r hr;omega⟩,by omega,by omega,h5,by omega⟩
def eqa_S0(a:List (List Int))(i:Nat):St:=⟨fr 27 [(0,(.p (rowsP a))),(1,(.p (rowsP a))),(12,(.p (intP (a.length:Int)))),(13,(.p (intP (i:Int))))],[]⟩
theorem eqa_p0{a:List (List Int)}{i'0:Nat}(h0:(a.length:Int)=(a.length:Int))(hl1:LoopOK Tryz.prog 0 zU3c8 (eqa_S0 a 0) (.exit 0) (eqa_S0 a i'0)){base:Nat}:FV Tryz.prog 46 [(.p (rowsP a)),(.p (rowsP a))] base (.p (blP true)) []:=by
  exact FV.fin Tryz.func46 rfl (o:=[bF,.k 4 ⟨(rng [(2,10),(14,13)]),[],[],[]⟩ (.exit 0) (eqa_S0 a i'0)]) (l:=[_,_]) (by kernel_rfl) (gc hl1.code (gc (q_neF h0) gn))
theorem eqa_L0_p1{a:List (List Int)}{i:Nat}{x100:List Int}{i':Nat}(h0:(i:Int)<(a.length:Int))(h1:a[i]? = some x100)(h2:x100.length≤100000)(h3:(decide (x100=x100))=true)(h4:inR (((i+1):Nat):Int))(ei':i'=(i+1)):CodeOK Tryz.prog 0 zU3c8 (eqa_S0 a i) .normal (eqa_S0 a i'):=by
  subst ei'
  exact CodeOK.fin (g:=⟨(rng [(2,10),(14,13)]),[],[],[]⟩) (o:=[bT,.x (intsP x100),.x (intsP x100),.c (.p (blP (decide (x100=x100)))) [],bF]) (l:=[_,_,_,_,_,_,_,_]) (by kernel_rfl) (gc h4 (gc (q_notF h3) (gc (fk 0 (eqi_ok x100 x100 h2) rfl) (gc (atm intsP h1) (gc (ixn intsP h1) (gc (atm intsP h1) (gc (ixn intsP h1) (gc (q_lt h0) gn))))))))
theorem eqa_L0_p2{a:List (List Int)}{i:Nat}(h0:(a.length:Int)≤(i:Int)):CodeOK Tryz.prog 0 zU3c8 (eqa_S0 a i) (.exit 0) (eqa_S0 a i):=by
  exact CodeOK.fin (g:=⟨(rng [(2,10),(14,13)]),[],[],[]⟩) (o:=[bF]) (l:=[_]) (by kernel_rfl) (gc (q_ltF h0) gn)
theorem eqa_ok(a b:List (List Int))(hb:b=a)(hl:a.length≤1000∧∀ r∈a,r.length≤1000){base:Nat}:FV Tryz.prog 46 [.p (rowsP a),.p (rowsP b)] base (.p (blP true)) []:=by
  subst hb
  have h:=LoopOK.count (P:=Tryz.prog) (k:=0) (b:=zU3c8) (e := .exit 0) (R:=eqa_S0 b b.length) b.length (fun i=>eqa_S0 b i)
    (fun i hi=>eqa_L0_p1 (by omega) (List.getElem?_eq_getElem hi) (by have:=hl.2 _ (List.getElem_mem hi);omega) (by simp) (inR_nat (by have:=hl.1;omega)) rfl)
    (eqa_L0_p2 (by omega)) (by simp)
  exact eqa_p0 rfl h
theorem sam_p0{c:Cup}(h0:c.sk=c.sk)(h1:c.ra=c.ra)(h2:c.be=c.be)(h3:c.pts.length≤100000)(h4:(decide (c.pts=c.pts))=true)(h5:c.done=c.done)(h6:c.done.length≤1000∧∀ r∈c.done,r.length≤1000){base:Nat}:FV Tryz.prog 24 [(.p (cupP c)),(.p (cupP c))] base (.p (blP true)) []:=by
  exact FV.fin Tryz.func24 rfl (o:=[bT,bT,bT,bT,bT,bT,bT,bT,bT,bT,bT,bT,bT,bT,bT,bT,bT,.c (.p (blP (decide (c.pts=c.pts)))) [],bT,bT,bT,bT,bT,bT,.c (.p (blP true)) [],bT]) (l:=[_,_,_,_,_,_,_,_,_,_,_,_,_,_,_,_,_,_,_,_,_,_,_,_,_,_]) (by kernel_rfl) (gc h4 (gc (fk 2 (eqa_ok c.done c.done h5 h6) rfl) (gc h4 (gc h4 (gc h4 (gc h4 (gc h4 (gc (q_eq h2) (gc (fk 2 (eqi_ok c.pts c.pts h3) rfl) (gc (q_eq h2) (gc (q_eq h2) (gc (q_eq h2) (gc (q_eq h2) (gc (q_eq h2) (gc (q_eq h1) (gc (q_eq h1) (gc (q_eq h1) (gc (q_eq h1) (gc (q_eq h1) (gc (q_eq h1) (gc (q_eq h0) (gc (q_eq h0) (gc (q_eq h0) (gc (q_eq h0) (gc (q_eq h0) (gc (q_eq h0) gn))))))))))))))))))))))))))
theorem sam_ok(c d:Cup)(h:d=c)(hS:KL.Small c){base:Nat}:FV Tryz.prog 24 [.p (cupP c),.p (cupP d)] base (.p (blP true)) []:=by
  subst h
  exact sam_p0 rfl rfl rfl (by have:=hS.pts;omega) (by simp) rfl ⟨hS.done,hS.rows⟩
end
section
open KL
theorem chk0(c:Cup)(hV:KL.Valid c){base:Nat}:FV Tryz.prog 43 [.p (cupP c)] base (.p (intP 0)) []:=by
  have:=chk_ok c hV.small (base:=base)
  rwa [(KL.valid_iff c).2 hV] at this
theorem named_inv{c:Cup}(k:Int)(h:checkP c≠0):namedE c k=checkP c:=by unfold namedE;rw [if_pos h]
theorem named_out{c:Cup}(hV:KL.Valid c){k:Int}(h:k<0∨c.sk≤k):namedE c k=1:=by
  unfold namedE
  rw [if_neg (fun q=>q ((KL.valid_iff c).2 hV)),if_neg (by simp [within];omega)]
theorem totalsUp_succ(c:Cup)(n:Nat):KL.totalsUp c (n+1)=KL.totalsUp c n++[totalM c n]:=by
  unfold KL.totalsUp
  rw [List.range_succ,List.map_append];rfl
end
section
open KL
theorem small_with{c:Cup}{f:List (List Int)}(hS:KL.Small (withC c f)):c.done.length+f.length≤1000∧∀ r∈c.done++f,r.length≤1000:=by
  have:=hS.done
  rw [show (withC c f).done=c.done++f from rfl,List.length_append] at this
  exact ⟨this,hS.rows⟩
theorem check_many{c:Cup}{f:List (List Int)}(hV:KL.Valid c)(h:20<f.length):checkP (withC c f)=2:=by
  have h1:=hV.sk1
  have h2:=hV.sk2
  have h3:=hV.ra1
  have h4:=hV.ra2
  have h5:=hV.be1
  have h6:=hV.be2
  rw [chk_eq]
  show (if (outB c.sk 1 12 || outB c.ra 1 20 || outB c.be 1 c.ra)=true then (3:Int) else if (outB c.pts.length 1 60 || decide (c.ra<(c.done++f).length) || (c.done++f).any (fun r=>decide ((r.length:Int)≠c.sk)))=true then 2 else _)=2
  rw [if_neg (by simp [outB];omega),if_pos]
  rw [Bool.or_eq_true,Bool.or_eq_true]
  exact .inl (.inr (decide_eq_true (by rw [List.length_append];omega)))
theorem after3_e2(c:Cup)(f:List (List Int))(hV:KL.Valid c)(hS:KL.Small (withC c f))(h:checkP (withC c f)≠0){base:Nat}:FV Tryz.prog 44 [.p (cupP c),.p (rowsP f)] base (.tup [.p zeroC,.p (intP (checkP (withC c f)))]) []:=by
  obtain ⟨q1,q2⟩:=small_with hS
  by_cases e:20<f.length
  · rw [check_many hV e]
    exact after_p1 hV.small ((KL.valid_iff c).2 hV) (by omega)
  · exact after_p2 hV.small ((KL.valid_iff c).2 hV) (by omega) hV.small.pts q1 q2 hS h rfl
theorem after3_ok(c:Cup)(f:List (List Int))(hV:KL.Valid c)(hW:KL.Valid (withC c f)){base:Nat}:FV Tryz.prog 44 [.p (cupP c),.p (rowsP f)] base (.tup [.p (cupP (withC c f)),.p (intP 0)]) []:=by
  obtain ⟨q1,q2⟩:=small_with hW.small
  have d1:=hW.dn
  have d2:=hW.ra2
  rw [show (withC c f).done=c.done++f from rfl,List.length_append] at d1
  rw [show (withC c f).ra=c.ra from rfl] at d1 d2
  exact after_ok c f hV (by omega) hW
theorem cla3_ok(f:List (List Int))(h:KL.Small ⟨0,0,0,[],f⟩){base:Nat}:FV Tryz.prog 42 [.p (rowsP f)] base (.p (rowsP f)) []:=cla_ok f h.done h.rows
theorem eqa3_ok(a b:List (List Int))(hb:b=a)(h:KL.Small ⟨0,0,0,[],a⟩){base:Nat}:FV Tryz.prog 46 [.p (rowsP a),.p (rowsP b)] base (.p (blP true)) []:=eqa_ok a b hb ⟨h.done,h.rows⟩
theorem FC.wk{P:Program}{f base:Nat}{args l l':List AV}{bs:List (Nat × AO)}{L:Upd}(h:FC P f args bs base (.tup l) L)(e:l.map wk1=l'):FC P f args bs base (.tup l') L:=fun M hb hf C w us hus hM n=>by
  subst e
  refine (h M hb hf C w us hus hM n).mono ?_
  rintro e w' ⟨u,rfl,C',hF,hM',hr⟩
  refine ⟨u,rfl,C',hF,hM',?_⟩
  cases hr with
  | tup _ vs h1 h2=>exact .tup _ vs (by simpa using h1) (fun i hi=>by
      have hi':i<l.length:=by simpa using hi
      simpa using wk1_rep (h2 i hi'))
end
section
open KL Go.RowKit Go.Lib Go.Sort Go.Shelf
theorem zU10q0:((0:Int) != (0:Int))=false:=by first | decide | simp
theorem pure162:KL.PureI Tryz.prog 162 KL.nz:=by
  refine ⟨enters_of Tryz.func162 (by kernel_rfl) rfl,fun W x => ?_⟩
  by_cases h:x=0
  · have hh:=hid (show KL.nz x=true by simp [KL.nz,h])
    have hx:(x == 0)=true:=by simp [h]
    have h':=hid h
    clear h
    go_enter Tryz.func162,Tryz.ntmps162
    go_wp2
    go_ret
    exact ⟨ret_bool hh.out.symm,rfl⟩
  · have hh:=hid (show KL.nz x=false by simp [KL.nz,h])
    have hx:(x == 0)=false:=by simp [h]
    have h':=hid h
    clear h
    go_enter Tryz.func162,Tryz.ntmps162
    go_wp2
    go_ret
    exact ⟨ret_bool hh.out.symm,rfl⟩
theorem del162_ok(l:List Int)(hl:l.length≤1000):FMM Tryz.prog 153 [.own 0,.fn 162 [] []] [some (.row 3 l.length (l.map intP))] (.own 1) [some .dead,some (.row 3 (l.filter fun x => !KL.nz x).length ((l.filter fun x => !KL.nz x).map intP))]:=deleteI_ok pure162 l hl
theorem rigPs_ints:∀ l:List Int,rigPs (l.map intP)=true
  | []=>rfl
  | x::l=>by rw [List.map_cons,rigPs,rigPs_ints l];rfl
theorem rigU_ints(b ty n:Nat)(l:List Int):rigU [(b,.row ty n (l.map intP))]=true:=by
  rw [rigU,rigPs_ints];rfl
def NSh(r:List Int):Prop:=∀ p:Int,p≠0→r.count p≤1
theorem NSh.nodup{r:List Int}(h:NSh r):(r.filter fun x => !KL.nz x).Nodup:=by
  rw [List.nodup_iff_count]
  intro a
  by_cases e:a=0
  · subst e
    rw [List.count_eq_zero.2 (fun hm=>by have:=(List.mem_filter.1 hm).2;simp [KL.nz] at this)]
    omega
  · rw [List.count_filter (by simp [KL.nz,e])]
    exact h a e
def plT(_:List Int):Bool:=true
theorem named0(c:Cup)(hV:KL.Valid c)(k:Int)(hk:0≤k∧k<c.sk){base:Nat}:FV Tryz.prog 107 [.p (cupP c),.p (intP k)] base (.tup [.p (cupP c),.p (intP 0)]) []:=by
  have:=named_ok c hV.small k (base:=base)
  rwa [named_in hV hk.1 hk.2] at this
theorem agt_p0{c:Cup}{s:Nat}{m0:List (List Int)}(h0:KL.Valid c)(h1:0≤(s:Int)∧(s:Int)<c.sk)(h2:∀ nb:Nat,FC Tryz.prog 138 [(.p (cupP c)),(.p (intP (s:Int)))] [] nb (.tup [(.p (rowsP m0)),(.p (blP true))]) []){base:Nat}:FV Tryz.prog 76 [(.p (cupP c)),(.p (intP (s:Int)))] base (.tup [(.p (rowsP m0)),(.p (intP 0))]) []:=by
  exact FV.fin Tryz.func76 rfl (o:=[.c (.tup [(.p (cupP c)),(.p (intP 0))]) [],bF,.c (.tup [(.p (rowsP m0)),(.p (blP true))]) [],bT]) (l:=[true=true,_,_,_]) (by kernel_rfl) (gc rfl (gc (h2 2) (gc zU10q0 (gc (fk 1 (named0 c h0 (s:Int) h1) rfl) gn))))
theorem agt_p1{c:Cup}{s:Nat}(h0:KL.Valid c)(h1:0≤(s:Int)∧(s:Int)<c.sk)(h2:∀ nb:Nat,FC Tryz.prog 138 [(.p (cupP c)),(.p (intP (s:Int)))] [] nb (.tup [(.p nilS),(.p (blP false))]) []){base:Nat}:FV Tryz.prog 76 [(.p (cupP c)),(.p (intP (s:Int)))] base (.tup [(.p nilS),(.p (intP 6))]) []:=by
  exact FV.fin Tryz.func76 rfl (o:=[.c (.tup [(.p (cupP c)),(.p (intP 0))]) [],bF,.c (.tup [(.p nilS),(.p (blP false))]) [],bF]) (l:=[false=false,_,_,_]) (by kernel_rfl) (gc rfl (gc (h2 2) (gc zU10q0 (gc (fk 1 (named0 c h0 (s:Int) h1) rfl) gn))))
theorem NSh.new{ord:List Int}{n i:Nat}{o:List Int}{pl:Int}{la:List Int}(h:KL.RInv ord n i o pl la)(hin:∀ x∈ord,0≤x∧x.toNat<n){x d:Int}(hx:ord[i]? = some x)(hd:0≤d)(hs:NSh o):NSh (o.set x.toNat (pl+d)):=by
  obtain ⟨x0,x1⟩:=hin x (List.mem_of_getElem? hx)
  have hp1:=h.p1
  have hk:x.toNat<o.length:=by rw [h.len];exact x1
  have hz:=h.zero i x (Nat.le_refl _) hx
  have hno:pl+d∉o:=fun hm=>by
    have:=(h.cl _ hm (by omega)).1
    have:=KL.count_pos' hm
    omega
  intro p hp
  rw [KL.count_setZ hk hz hp]
  by_cases e:pl+d=p
  · subst e;rw [if_pos rfl,List.count_eq_zero.2 hno];omega
  · rw [if_neg e];exact hs p hp
structure FurN (c:Cup) (F:List (List Int)):Prop where
  fur:Fur c F
  ns:∀ x∈F,NSh x
theorem furN_won{c:Cup}(hV:KL.Valid c){s:Nat}(hs:(s:Int)<c.sk):FurN c (wonM c s):=by
  refine ⟨fur_won hV hs,fun x hx => ?_⟩
  unfold wonM at hx
  rw [(List.mem_replicate.1 hx).2]
  intro p hp
  have h:=KL.count_set_le (l:=List.replicate c.sk.toNat (0:Int)) (i:=s) (x:=1) (y:=p)
  have h0:(List.replicate c.sk.toNat (0:Int)).count p=0:=by
    rw [List.count_replicate,if_neg]
    simpa using fun e=>hp e.symm
  unfold KL.wonRace
  split at h <;> omega
theorem show_yes(c:Cup)(s:Nat)(hV:KL.Valid c)(hs:(s:Int)<c.sk)(h:canM c s=true){base:Nat}:FV Tryz.prog 75 [.p (cupP c),.p (intP (s:Int))] base (.tup [.p (rowsP (wonM c s)),.p (intP 0)]) []:=by
  have:=show_ok c hV s hs (base:=base)
  rwa [if_pos h] at this
theorem show_no(c:Cup)(s:Nat)(hV:KL.Valid c)(hs:(s:Int)<c.sk)(h:canM c s=false){base:Nat}:FV Tryz.prog 75 [.p (cupP c),.p (intP (s:Int))] base (.tup [.p nilS,.p (intP 6)]) []:=by
  have:=show_ok c hV s hs (base:=base)
  rwa [if_neg (by rw [h];simp)] at this
theorem against_yes(c:Cup)(s:Nat)(hV:KL.Valid c)(hs:(s:Int)<c.sk)(h:sureM c s=false):∃ k,k<c.sk.toNat∧KL.passes c s k=true∧∀ nb:Nat,FC Tryz.prog 76 [.p (cupP c),.p (intP (s:Int))] [] nb (.tup [.p (rowsP (wonM c k)),.p (intP 0)]) []:=by
  rcases agn_ok c hV s hs with ⟨k,h1,h2,h3⟩ | ⟨h1,_⟩
  · exact ⟨k,h1,h2,fun nb=>(agt_p0 hV (by omega) fun b=>(h3 b).fc rfl).fc rfl⟩
  · rw [sureM_iff.2 h1] at h;cases h
theorem against_no(c:Cup)(s:Nat)(hV:KL.Valid c)(hs:(s:Int)<c.sk)(h:sureM c s=true):∀ nb:Nat,FC Tryz.prog 76 [.p (cupP c),.p (intP (s:Int))] [] nb (.tup [.p nilS,.p (intP 6)]) []:=by
  rcases agn_ok c hV s hs with ⟨k,h1,h2,h3⟩ | ⟨_,h3⟩
  · rw [sureM_iff.1 h k h1] at h2;cases h2
  · exact fun nb=>(agt_p1 hV (by omega) fun b=>(h3 b).fc rfl).fc rfl
end
section
open KL Go.RowKit Go.Lib Go.Sort Go.Shelf
noncomputable abbrev zU12c0:Code:=sub (cd Tryz.f74) [1,1,0,1,0,0,1,0,0,1,1,1,0,1,0,0]
noncomputable abbrev zU12c1:Code:=sub (cd Tryz.f132) [1,0,1,0,0,1,0,0,1,0,0]
noncomputable abbrev zU12c2:Code:=sub (cd Tryz.f80) [1,0,1,0,0]
noncomputable abbrev zU12c3:Code:=sub (cd Tryz.f74) [1,1,0,1,0,0]
noncomputable abbrev zU12c4:Code:=sub (cd Tryz.f132) [1,0,1,0,0]
noncomputable abbrev zU12c5:Code:=sub (cd Tryz.f152) [1,0,1,0,0]
noncomputable abbrev zU12c6:Code:=sub (cd Tryz.f78) [1,1,0,1,0,0]
theorem zU12q0:((0:Int) != (0:Int))=false:=by first | decide | simp
theorem compact_le(l:List Int):(Lib.compact l).length≤l.length:=by
  unfold Lib.compact Lib.compactUpTo
  rw [List.length_map]
  exact Nat.le_trans (List.length_filter_le _ _) (by simp)
theorem compact_all{l:List Int}(h:∀ j,0<j→j<l.length→l.toArray[j]! ≠ l.toArray[j-1]!):(Lib.compact l).length=l.length:=by
  unfold Lib.compact Lib.compactUpTo
  rw [List.length_map,List.filter_eq_self.2 fun j hj => ?_,List.length_range]
  have hj':=List.mem_range.1 hj
  by_cases e:j=0
  · subst e;exact Lib.keeps_lt_one _ 0 (by omega)
  · exact Lib.keeps_pos (h j (by omega) hj')
theorem compact_some{l:List Int}(h:(Lib.compact l).length=l.length){j:Nat}(h0:0<j)(hj:j<l.length):l.toArray[j]! ≠ l.toArray[j-1]! := fun e=>by
  unfold Lib.compact Lib.compactUpTo at h
  rw [List.length_map] at h
  have h1:((List.range l.length).filter (Lib.keeps l.toArray)).length=(List.range l.length).length:=by rw [List.length_range];exact h
  have h2:=List.length_filter_eq_length_iff.1 h1 j (List.mem_range.2 hj)
  rw [Lib.keeps_neg h0 e] at h2;cases h2
theorem compact_own(base:Nat)(v:Value)(l:List Int)(w:World)(hv:KL.OwnI w base v l)(hlen:l.length≤1000) :
    Calls Tryz.prog 163 #[v] w fun e w'=>∃ p' n' cap',e = .returned (.slice p' n' cap')∧n'=(Lib.compact l).length∧KL.OwnI w' base (.slice p' n' cap') (Lib.compact l)∧w.grownBy w' v.ownBlock∧((Value.slice p' n' cap').ownBlock=v.ownBlock):=by
  have hown:=hv
  rcases hv.2 with ⟨rfl,h0⟩ | ⟨b,cap,cur,rfl,hb,hg,hn,hm,hs,ht⟩
  · have:l=[]:=List.eq_nil_of_length_eq_zero h0
    subst this
    refine (Tryz.slices_Compact_int_empty none 0 w).mono ?_
    rintro e w' ⟨rfl,rfl⟩
    exact ⟨_,_,_,rfl,rfl,hown,World.grownBy.refl _ _,rfl⟩
  · refine (Tryz.slices_Compact_int b 0 cap l w (holds_of_blockI hg (by simpa using ht)) (by omega) (by simpa using hn)).mono ?_
    rintro e w' ⟨rfl,q,rfl⟩
    have hfl:=compact_le l
    refine ⟨_,_,_,rfl,rfl,?_,?_,rfl⟩
    · have:=ownsRow_putRow (enc:=Value.int .i64) (q:=q) (k:=(Lib.compact l).length) (ys:=Lib.compact l++List.replicate (l.length-(Lib.compact l).length) 0) hown (by simp;omega) hfl
      unfold KL.OwnI
      simpa using this
    · exact grownBy_sortedI (os := #[]) (n:=q) (g:=b) (w:=w) ((Lib.compact l++List.replicate (l.length-(Lib.compact l).length) 0).toArray)
theorem compactI_ok(l:List Int)(hl:l.length≤1000):FMM Tryz.prog 163 [.own 0] [some (.row 3 l.length (l.map intP))] (.own 1) [some .dead,some (.row 3 (Lib.compact l).length ((Lib.compact l).map intP))]:=fun C w us hus hM n=>by
  obtain ⟨u,rfl,hu⟩:=repL_one hus
  refine (callsIn_wide.2 (compact_own 0 u l w (own_in hM rfl hu) hl)).mono ?_
  rintro e w' ⟨p',n',cap',rfl,h0,h1,h2,h3⟩
  obtain ⟨C',f,m,r⟩:=row_after (d:=true) hM hu h1 h2 h3 (fun h=>by cases h)
  exact ⟨_,rfl,C',f,m,r⟩
theorem pla_p0{l:List Int}{r0:Bool}(h0:l.length≤1000)(h1:(l.filter fun x => !KL.nz x).length≤1000)(h2:((l.filter fun x => !KL.nz x).mergeSort KL.leB).length≤1000)(er0:r0=((((Lib.compact ((l.filter fun x => !KL.nz x).mergeSort KL.leB)).length:Nat):Int) == ((((l.filter fun x => !KL.nz x).mergeSort KL.leB).length:Nat):Int))){base:Nat}:FV Tryz.prog 136 [(.p (intsP l))] base (.p (blP r0)) []:=by
  subst er0
  exact FV.fin Tryz.func136 rfl (o:=[.c (.own 0) [(0,(.row 3 l.length (l.map intP)))],.c (.own 1) [(0,.dead),(1,(.row 3 ((l.filter fun x => !KL.nz x).length) ((l.filter fun x => !KL.nz x).map intP)))],.c (.tup []) [(1,(.row 3 (((l.filter fun x => !KL.nz x).mergeSort KL.leB).length) (((l.filter fun x => !KL.nz x).mergeSort KL.leB).map intP)))],.c (.own 2) [(2,(.row 3 (((l.filter fun x => !KL.nz x).mergeSort KL.leB).length) (((l.filter fun x => !KL.nz x).mergeSort KL.leB).map intP)))],.c (.own 3) [(2,.dead),(3,(.row 3 ((Lib.compact ((l.filter fun x => !KL.nz x).mergeSort KL.leB)).length) ((Lib.compact ((l.filter fun x => !KL.nz x).mergeSort KL.leB)).map intP)))]]) (l:=[FC Tryz.prog 163 [(.own 2)] [(2,(.row 3 (((l.filter fun x => !KL.nz x).mergeSort KL.leB).length) (((l.filter fun x => !KL.nz x).mergeSort KL.leB).map intP)))] 3 (.own 3) [(2,.dead),(3,(.row 3 ((Lib.compact ((l.filter fun x => !KL.nz x).mergeSort KL.leB)).length) ((Lib.compact ((l.filter fun x => !KL.nz x).mergeSort KL.leB)).map intP)))],FC Tryz.prog 150 [(.own 1)] [(1,(.row 3 (((l.filter fun x => !KL.nz x).mergeSort KL.leB).length) (((l.filter fun x => !KL.nz x).mergeSort KL.leB).map intP)))] 2 (.own 2) [(2,(.row 3 (((l.filter fun x => !KL.nz x).mergeSort KL.leB).length) (((l.filter fun x => !KL.nz x).mergeSort KL.leB).map intP)))],FC Tryz.prog 84 [(.own 1)] [(1,(.row 3 ((l.filter fun x => !KL.nz x).length) ((l.filter fun x => !KL.nz x).map intP)))] 2 (.tup []) [(1,(.row 3 (((l.filter fun x => !KL.nz x).mergeSort KL.leB).length) (((l.filter fun x => !KL.nz x).mergeSort KL.leB).map intP)))],FC Tryz.prog 153 [(.own 0),(.fn 162 [] [])] [(0,(.row 3 l.length (l.map intP)))] 1 (.own 1) [(0,.dead),(1,(.row 3 ((l.filter fun x => !KL.nz x).length) ((l.filter fun x => !KL.nz x).map intP)))],_]) (by kernel_rfl) (gc (FMM.fc (ids:=[2]) (compactI_ok ((l.filter fun x => !KL.nz x).mergeSort KL.leB) h2) (by kernel_rfl)) (gc (FV.view (args':=[(.p (intsP ((l.filter fun x => !KL.nz x).mergeSort KL.leB)))]) (cloneI_ok ((l.filter fun x => !KL.nz x).mergeSort KL.leB) h2) (by kernel_rfl) (by kernel_rfl) (rigU_ints _ _ _ _)) (gc (FMM.fc (ids:=[1]) (sortI_ok (l.filter fun x => !KL.nz x) h1) (by kernel_rfl)) (gc (FMM.fc (ids:=[0]) (del162_ok l h0) (by kernel_rfl)) (gc (fk 0 (cloneI_ok l h0) rfl) gn)))))
def pB(r:List Int):Bool := !(r.any fun p=>decide (0<p) && decide (1<r.count p))
theorem pB_iff{r:List Int}(h0:∀ x∈r,0≤x):pB r=true↔NSh r:=by
  unfold pB NSh
  rw [Bool.not_eq_true',List.any_eq_false]
  constructor
  · intro h p hp
    by_cases hm:p∈r
    · have h1:=h p hm
      have h2:=h0 p hm
      simp only [Bool.and_eq_true,decide_eq_true_eq,not_and] at h1
      have:=h1 (by omega)
      omega
    · rw [List.count_eq_zero.2 hm];omega
  · intro h p hm
    simp only [Bool.and_eq_true,decide_eq_true_eq,not_and]
    intro h1
    have:=h p (by omega)
    omega
theorem pla_eq{l:List Int}(h0:∀ x∈l,0≤x):decide ((Lib.compact ((l.filter fun x => !KL.nz x).mergeSort KL.leB)).length=((l.filter fun x => !KL.nz x).mergeSort KL.leB).length)=pB l:=by
  obtain ⟨L,hL⟩:∃ L,L=(l.filter fun x => !KL.nz x).mergeSort KL.leB:=⟨_,rfl⟩
  have hs:L.Pairwise (· ≤ ·):=by
    have:=List.pairwise_mergeSort KL.leB_trans KL.leB_total (l.filter fun x => !KL.nz x)
    rw [hL]
    exact this.imp (fun h=>by simpa [KL.leB] using h)
  have hp:L.Perm (l.filter fun x => !KL.nz x):=by rw [hL];exact List.mergeSort_perm _ _
  have hg:∀ j (h:j<L.length),L.toArray[j]! = L[j]:=fun j h=>by simp [h]
  rw [← hL,Bool.eq_iff_iff,pB_iff h0,decide_eq_true_eq]
  constructor
  · intro h
    have hlt:L.Pairwise (· < ·):=by
      rw [List.pairwise_iff_getElem]
      intro i j hi hj hij
      have h1:=compact_some h (j:=i+1) (by omega) (by omega)
      rw [hg _ (by omega),hg _ (by omega)] at h1
      have h2:=List.pairwise_iff_getElem.1 hs i (i+1) (by omega) (by omega) (by omega)
      have h3:L[i+1]≤L[j]:=by
        by_cases e:i+1=j
        · subst e;omega
        · exact List.pairwise_iff_getElem.1 hs (i+1) j (by omega) hj (by omega)
      simp only [Nat.add_sub_cancel] at h1
      omega
    have hnd:L.Nodup:=hlt.imp fun h=>by omega
    have hnf:=hp.nodup_iff.1 hnd
    intro p hp0
    have:=List.nodup_iff_count.1 hnf p
    rwa [List.count_filter (by simp [KL.nz,hp0])] at this
  · intro h
    have hnd:L.Nodup:=hp.nodup_iff.2 (NSh.nodup h)
    refine compact_all fun j h1 h2 => ?_
    rw [hg _ h2,hg _ (by omega)]
    exact fun e=>List.pairwise_iff_getElem.1 hnd (j-1) j (by omega) h2 (by omega) e.symm
theorem plainG_ok(l:List Int)(hl:l.length≤1000∧∀ x∈l,0≤x∧x≤60){base:Nat}:FV Tryz.prog 136 [.p (intsP l)] base (.p (blP (pB l))) []:=by
  have h1:(l.filter fun x => !KL.nz x).length≤1000:=Nat.le_trans (List.length_filter_le _ _) hl.1
  exact pla_p0 hl.1 h1 (by rw [List.length_mergeSort];exact h1) (by rw [← pla_eq fun x hx=>(hl.2 x hx).1,Bool.eq_iff_iff];simp;omega)
theorem allPlN_p0{x:List Int}{r0:Bool}(h0:x.length≤1000∧∀ y∈x,0≤y∧y≤60)(er0:r0=(!(pB x))):FMM Tryz.prog 151 [(.p (intsP x)),(.ptr 0 0)] [some (.box 93 [(.fn 136 [] [])])] (.p (blP r0)) [some (.box 93 [(.fn 136 [] [])])]:=by
  subst er0
  exact FMM.fin (k:=1) (g:=⟨[],[],[],[]⟩) rfl Tryz.func151 rfl (o:=[.c (.p (blP (pB x))) []]) (l:=[_]) (by kernel_rfl) (gc (fk 1 (plainG_ok x h0) rfl) gn)
theorem allPlN_ok(x:List Int)(he:x.length≤1000∧∀ y∈x,0≤y∧y≤60):FMM Tryz.prog 151 [(.p (intsP x)),.ptr 0 0] [some (.box 93 [(.fn 136 [] [])])] (.p (blP (!(pB x)))) [some (.box 93 [(.fn 136 [] [])])]:=allPlN_p0 he rfl
def allPlI_S0(l:List (List Int))(i:Nat):St:=⟨fr 19 [(0,(.p (rowsP l))),(1,(.fn 151 [] [(.ptr 0 0)])),(7,(.p (intP (l.length:Int)))),(8,(.p (intP (i:Int))))],[some (.box 93 [(.fn 136 [] [])])]⟩
theorem allPlI_p0{l:List (List Int)}{i'0:Nat}(hl0:LoopOK Tryz.prog 1 zU12c5 (allPlI_S0 l 0) (.exit 0) (allPlI_S0 l i'0)):FMM Tryz.prog 152 [(.p (rowsP l)),(.fn 151 [] [(.ptr 0 0)])] [some (.box 93 [(.fn 136 [] [])])] (.p (intP (-1:Int))) [some (.box 93 [(.fn 136 [] [])])]:=by
  exact FMM.fin (k:=1) (g:=⟨[],[],[],[]⟩) rfl Tryz.func152 rfl (o:=[.k 6 ⟨(rng [(2,5),(9,10)]),[],[],[]⟩ (.exit 0) (allPlI_S0 l i'0)]) (l:=[_]) (by kernel_rfl) (gc hl0.code gn)
theorem allPlI_p1{l:List (List Int)}{i'0:Nat}(hl0:LoopOK Tryz.prog 1 zU12c5 (allPlI_S0 l 0) .ret (setS (allPlI_S0 l i'0) [(4,(.p (intP (i'0:Int))))])):FMM Tryz.prog 152 [(.p (rowsP l)),(.fn 151 [] [(.ptr 0 0)])] [some (.box 93 [(.fn 136 [] [])])] (.p (intP (i'0:Int))) [some (.box 93 [(.fn 136 [] [])])]:=by
  exact FMM.fin (k:=1) (g:=⟨[],[],[],[]⟩) rfl Tryz.func152 rfl (o:=[.k 6 ⟨(rng [(2,5),(9,10)]),[],[],[]⟩ .ret (setS (allPlI_S0 l i'0) [(4,(.p (intP (i'0:Int))))])]) (l:=[_]) (by kernel_rfl) (gc hl0.code gn)
theorem allPlI_L0_p0{l:List (List Int)}{i:Nat}{x100:List Int}(h0:(i:Int)<(l.length:Int))(h1:l[i]? = some x100)(h2:x100.length≤1000∧∀ y∈x100,0≤y∧y≤60)(h3:(pB x100)=false):CodeOK Tryz.prog 1 zU12c5 (allPlI_S0 l i) .ret (setS (allPlI_S0 l i) [(4,(.p (intP (i:Int))))]):=by
  exact CodeOK.fin (g:=⟨(rng [(2,2),(5,2),(9,10)]),[],[],[]⟩) (o:=[bT,.x (intsP x100),.c (.p (blP (!(pB x100)))) [(0,(.box 93 [(.fn 136 [] [])]))],bT]) (l:=[_,FC Tryz.prog 151 [(.p (intsP x100)),(.ptr 0 0)] [(0,(.box 93 [(.fn 136 [] [])]))] 1 (.p (blP (!(pB x100)))) [(0,(.box 93 [(.fn 136 [] [])]))],_,_,_]) (by kernel_rfl) (gc (q_not h3) (gc (FMM.fc (ids:=[0]) (allPlN_ok x100 h2) (by kernel_rfl)) (gc (atm intsP h1) (gc (ixn intsP h1) (gc (q_lt h0) gn)))))
theorem allPlI_L0_p1{l:List (List Int)}{i:Nat}{x100:List Int}{i':Nat}(h0:(i:Int)<(l.length:Int))(h1:l[i]? = some x100)(h2:x100.length≤1000∧∀ y∈x100,0≤y∧y≤60)(h3:(pB x100)=true)(h4:inR (((i+1):Nat):Int))(ei':i'=(i+1)):CodeOK Tryz.prog 1 zU12c5 (allPlI_S0 l i) .normal (allPlI_S0 l i'):=by
  subst ei'
  exact CodeOK.fin (g:=⟨(rng [(2,5),(9,10)]),[],[],[]⟩) (o:=[bT,.x (intsP x100),.c (.p (blP (!(pB x100)))) [(0,(.box 93 [(.fn 136 [] [])]))],bF]) (l:=[_,_,FC Tryz.prog 151 [(.p (intsP x100)),(.ptr 0 0)] [(0,(.box 93 [(.fn 136 [] [])]))] 1 (.p (blP (!(pB x100)))) [(0,(.box 93 [(.fn 136 [] [])]))],_,_,_]) (by kernel_rfl) (gc h4 (gc (q_notF h3) (gc (FMM.fc (ids:=[0]) (allPlN_ok x100 h2) (by kernel_rfl)) (gc (atm intsP h1) (gc (ixn intsP h1) (gc (q_lt h0) gn))))))
theorem allPlI_L0_p2{l:List (List Int)}{i:Nat}(h0:(l.length:Int)≤(i:Int)):CodeOK Tryz.prog 1 zU12c5 (allPlI_S0 l i) (.exit 0) (allPlI_S0 l i):=by
  exact CodeOK.fin (g:=⟨(rng [(2,5),(9,10)]),[],[],[]⟩) (o:=[bF]) (l:=[_]) (by kernel_rfl) (gc (q_ltF h0) gn)
theorem allPlI_ok(l:List (List Int))(hl:small l.length)(he:∀ x∈l,x.length≤1000∧∀ y∈x,0≤y∧y≤60):FMM Tryz.prog 152 [.p (rowsP l),(.fn 151 [] [(.ptr 0 0)])] [some (.box 93 [(.fn 136 [] [])])] (.p (intP (idxF (fun x => !(pB x)) l))) [some (.box 93 [(.fn 136 [] [])])]:=by
  rcases LoopOK.find (P:=Tryz.prog) (k:=1) (b:=sub (cd Tryz.f152) [1,0,1,0,0]) (fun i=>allPlI_S0 l i) (fun i _=>setS (allPlI_S0 l i) [(4,.p (intP (i:Int)))]) (allPlI_S0 l l.length) .ret (.exit 0) (by simp) (by simp) (fun x => !(pB x)) l
    (fun i x hx hp=>allPlI_L0_p1 (by have:=lt_of_at hx;omega) hx (he x (List.mem_of_getElem? hx)) (by simpa using hp) (inR_nat (by have:=lt_of_at hx;omega)) rfl)
    (fun i x hx hp=>allPlI_L0_p0 (by have:=lt_of_at hx;omega) hx (he x (List.mem_of_getElem? hx)) (by simpa using hp))
    (allPlI_L0_p2 (l:=l) (i:=l.length) (by omega)) with ⟨i,x,h1,h2,h3,h4⟩ | ⟨h1,h2,h3⟩
  · rw [idxF_some h2];exact allPlI_p1 h4
  · rw [idxF_none h1];exact allPlI_p0 h3
theorem allPlC_p0{l:List (List Int)}{r0:Bool}(h0:small l.length)(h1:∀ x∈l,x.length≤1000∧∀ y∈x,0≤y∧y≤60)(er0:r0=(decide ((idxF (fun x => !(pB x)) l) ≥ (0:Int)))):FMM Tryz.prog 122 [(.p (rowsP l)),(.fn 151 [] [(.ptr 0 0)])] [some (.box 93 [(.fn 136 [] [])])] (.p (blP r0)) [some (.box 93 [(.fn 136 [] [])])]:=by
  subst er0
  exact FMM.fin (k:=1) (g:=⟨[],[],[],[]⟩) rfl Tryz.func122 rfl (o:=[.c (.p (intP (idxF (fun x => !(pB x)) l))) [(0,(.box 93 [(.fn 136 [] [])]))]]) (l:=[FC Tryz.prog 152 [(.p (rowsP l)),(.fn 151 [] [(.ptr 0 0)])] [(0,(.box 93 [(.fn 136 [] [])]))] 1 (.p (intP (idxF (fun x => !(pB x)) l))) [(0,(.box 93 [(.fn 136 [] [])]))]]) (by kernel_rfl) (gc (FMM.fc (ids:=[0]) (allPlI_ok l h0 h1) (by kernel_rfl)) gn)
theorem allPlC_ok(l:List (List Int))(hl:small l.length)(he:∀ x∈l,x.length≤1000∧∀ y∈x,0≤y∧y≤60):FMM Tryz.prog 122 [.p (rowsP l),(.fn 151 [] [(.ptr 0 0)])] [some (.box 93 [(.fn 136 [] [])])] (.p (blP (l.any fun x => !(pB x)))) [some (.box 93 [(.fn 136 [] [])])]:=allPlC_p0 hl he (idxF_any _ _).symm
theorem allPl_p0{l:List (List Int)}{r0:Bool}(h0:small l.length)(h1:∀ x∈l,x.length≤1000∧∀ y∈x,0≤y∧y≤60)(er0:r0=(!(l.any fun x => !(pB x)))){base:Nat}:FV Tryz.prog 117 [(.p (rowsP l)),(.fn 136 [] [])] base (.p (blP r0)) []:=by
  subst er0
  exact FV.fin Tryz.func117 rfl (o:=[.c (.p (blP (l.any fun x => !(pB x)))) [(0,(.box 93 [(.fn 136 [] [])]))]]) (l:=[FC Tryz.prog 122 [(.p (rowsP l)),(.fn 151 [] [(.ptr 0 0)])] [(0,(.box 93 [(.fn 136 [] [])]))] 1 (.p (blP (l.any fun x => !(pB x)))) [(0,(.box 93 [(.fn 136 [] [])]))]]) (by kernel_rfl) (gc (FMM.fc (ids:=[0]) (allPlC_ok l h0 h1) (by kernel_rfl)) gn)
theorem allPl_ok(l:List (List Int))(hl:small l.length)(he:∀ x∈l,x.length≤1000∧∀ y∈x,0≤y∧y≤60){base:Nat}:FV Tryz.prog 117 [.p (rowsP l),(.fn 136 [] [])] base (.p (blP (l.all fun x=>pB x))) []:=allPl_p0 hl he (by rw [List.all_eq_not_any_not])
theorem she_p0{c:Cup}{k:Int}{f:List (List Int)}{r0:Int}(h0:KL.Small c)(h1:(namedE c k)≠(0:Int))(er0:r0=(namedE c k)){base:Nat}:FV Tryz.prog 72 [(.p (cupP c)),(.p (intP k)),(.p (rowsP f))] base (.tup [(.p (blP false)),(.p (intP r0))]) []:=by
  subst er0
  exact FV.fin Tryz.func72 rfl (o:=[.c (.tup [(.p (cupP c)),(.p (intP (namedE c k)))]) [],bT]) (l:=[_,_]) (by kernel_rfl) (gc (q_neT h1) (gc (fk 1 (named_ok c h0 k) rfl) gn))
theorem shn_p0{c:Cup}{s:Nat}{f:List (List Int)}(h0:KL.Valid c)(h1:0≤(s:Int)∧(s:Int)<c.sk)(h2:inR (c.ra-(c.done.length:Int)))(h3:(f.length:Int)≠(c.ra-(c.done.length:Int))){base:Nat}:FV Tryz.prog 72 [(.p (cupP c)),(.p (intP (s:Int))),(.p (rowsP f))] base (.tup [(.p (blP false)),(.p (intP 2))]) []:=by
  exact FV.fin Tryz.func72 rfl (o:=[.c (.tup [(.p (cupP c)),(.p (intP 0))]) [],bF,bT]) (l:=[_,_,_,_]) (by kernel_rfl) (gc (q_neT h3) (gc h2 (gc zU12q0 (gc (fk 1 (named0 c h0 (s:Int) h1) rfl) gn))))
theorem shn_p1{c:Cup}{s:Nat}{f:List (List Int)}{n0:Cup}{e1:Int}(h0:KL.Valid c)(h1:0≤(s:Int)∧(s:Int)<c.sk)(h2:inR (c.ra-(c.done.length:Int)))(h3:(f.length:Int)=(c.ra-(c.done.length:Int)))(h4:∀ nb:Nat,FC Tryz.prog 44 [(.p (cupP c)),(.p (rowsP f))] [] nb (.tup [(.p (cupP n0)),(.p (intP e1))]) [])(h5:e1≠(0:Int)){base:Nat}:FV Tryz.prog 72 [(.p (cupP c)),(.p (intP (s:Int))),(.p (rowsP f))] base (.tup [(.p (blP false)),(.p (intP e1))]) []:=by
  exact FV.fin Tryz.func72 rfl (o:=[.c (.tup [(.p (cupP c)),(.p (intP 0))]) [],bF,bF,.c (.tup [(.p (cupP n0)),(.p (intP e1))]) [],bT]) (l:=[_,_,_,_,_,_]) (by kernel_rfl) (gc (q_neT h5) (gc (h4 2) (gc (q_neF h3) (gc h2 (gc zU12q0 (gc (fk 1 (named0 c h0 (s:Int) h1) rfl) gn))))))
theorem shn_p2{c:Cup}{s:Nat}{f:List (List Int)}{n0:Cup}{e1:Int}(h0:KL.Valid c)(h1:0≤(s:Int)∧(s:Int)<c.sk)(h2:inR (c.ra-(c.done.length:Int)))(h3:(f.length:Int)=(c.ra-(c.done.length:Int)))(h4:∀ nb:Nat,FC Tryz.prog 44 [(.p (cupP c)),(.p (rowsP f))] [] nb (.tup [(.p (cupP n0)),(.p (intP e1))]) [])(h5:e1=(0:Int))(h6:small f.length)(h7:∀ x∈f,x.length≤1000∧∀ y∈x,0≤y∧y≤60)(h8:(f.all fun x=>pB x)=false){base:Nat}:FV Tryz.prog 72 [(.p (cupP c)),(.p (intP (s:Int))),(.p (rowsP f))] base (.tup [(.p (blP false)),(.p (intP 8))]) []:=by
  exact FV.fin Tryz.func72 rfl (o:=[.c (.tup [(.p (cupP c)),(.p (intP 0))]) [],bF,bF,.c (.tup [(.p (cupP n0)),(.p (intP e1))]) [],bF,.c (.p (blP (f.all fun x=>pB x))) [],bT]) (l:=[_,_,_,_,_,_,_,_]) (by kernel_rfl) (gc (q_not h8) (gc (fk 3 (allPl_ok f h6 h7) rfl) (gc (q_neF h5) (gc (h4 2) (gc (q_neF h3) (gc h2 (gc zU12q0 (gc (fk 1 (named0 c h0 (s:Int) h1) rfl) gn))))))))
theorem shn_p3{c:Cup}{s:Nat}{f:List (List Int)}{n0:Cup}{e1:Int}{r0:Bool}(h0:KL.Valid c)(h1:0≤(s:Int)∧(s:Int)<c.sk)(h2:inR (c.ra-(c.done.length:Int)))(h3:(f.length:Int)=(c.ra-(c.done.length:Int)))(h4:∀ nb:Nat,FC Tryz.prog 44 [(.p (cupP c)),(.p (rowsP f))] [] nb (.tup [(.p (cupP n0)),(.p (intP e1))]) [])(h5:e1=(0:Int))(h6:small f.length)(h7:∀ x∈f,x.length≤1000∧∀ y∈x,0≤y∧y≤60)(h8:(f.all fun x=>pB x)=true)(h9:KL.Valid n0)(h10:((s:Nat):Int)<n0.sk)(er0:r0=((rankM n0 s) == (1:Int))){base:Nat}:FV Tryz.prog 72 [(.p (cupP c)),(.p (intP (s:Int))),(.p (rowsP f))] base (.tup [(.p (blP r0)),(.p (intP 0))]) []:=by
  subst er0
  exact FV.fin Tryz.func72 rfl (o:=[.c (.tup [(.p (cupP c)),(.p (intP 0))]) [],bF,bF,.c (.tup [(.p (cupP n0)),(.p (intP e1))]) [],bF,.c (.p (blP (f.all fun x=>pB x))) [],bF,.c (.p (intP (rankM n0 s))) []]) (l:=[_,_,_,_,_,_,_,_,_]) (by kernel_rfl) (gc (fk 3 (rank_ok n0 h9 s h10) rfl) (gc (q_notF h8) (gc (fk 3 (allPl_ok f h6 h7) rfl) (gc (q_neF h5) (gc (h4 2) (gc (q_neF h3) (gc h2 (gc zU12q0 (gc (fk 1 (named0 c h0 (s:Int) h1) rfl) gn)))))))))
def rpl_S0(l:List (List Int))(i:Nat):St:=⟨fr 43 [(0,(.p (rowsP l))),(3,(.p (intP (i:Int))))],[]⟩
theorem rpl_p0{l:List (List Int)}{i'0:Nat}(hl0:LoopOK Tryz.prog 0 zU12c4 (rpl_S0 l 0) (.exit 0) (rpl_S0 l i'0)){base:Nat}:FV Tryz.prog 132 [(.p (rowsP l))] base (.p (blP true)) []:=by
  exact FV.fin Tryz.func132 rfl (o:=[.k 6 ⟨(rng [(1,2),(4,39)]),[],[],[]⟩ (.exit 0) (rpl_S0 l i'0)]) (l:=[_]) (by kernel_rfl) (gc hl0.code gn)
theorem rpl_p1{l:List (List Int)}{i'0:Nat}(hl0:LoopOK Tryz.prog 0 zU12c4 (rpl_S0 l 0) .ret (setS (rpl_S0 l i'0) [(2,(.kb false))])){base:Nat}:FV Tryz.prog 132 [(.p (rowsP l))] base (.p (blP false)) []:=by
  exact FV.fin Tryz.func132 rfl (o:=[.k 6 ⟨(rng [(1,2),(4,39)]),[],[],[]⟩ .ret (setS (rpl_S0 l i'0) [(2,(.kb false))])]) (l:=[_]) (by kernel_rfl) (gc hl0.code gn)
def rpl_S1(l:List (List Int))(i:Nat)(s:Nat):St:=⟨fr 43 [(0,(.p (rowsP l))),(3,(.p (intP (i:Int)))),(4,(.p (intP (s:Int)))),(5,(.p (intP (i:Int)))),(6,(.p (rowsP l))),(7,(.p (intP (l.length:Int)))),(8,(.p (blP (decide ((i:Int)<(l.length:Int))))))],[]⟩
theorem rpl_L0_p0{l:List (List Int)}{i s'100 i':Nat}(h0:(i:Int)<(l.length:Int))(hl1:LoopOK Tryz.prog 0 zU12c1 (rpl_S1 l i 0) (.exit 2) (rpl_S1 l i s'100))(h2:inR (((i+1):Nat):Int))(ei':i'=(i+1)):CodeOK Tryz.prog 0 zU12c4 (rpl_S0 l i) .normal (rpl_S0 l i'):=by
  subst ei'
  exact CodeOK.fin (g:=⟨(rng [(1,2),(4,39)]),[],[],[]⟩) (o:=[bT,.k 5 ⟨(rng [(1,2),(11,32)]),[],[],[]⟩ (.exit 2) (rpl_S1 l i s'100)]) (l:=[_,_,_]) (by kernel_rfl) (gc h2 (gc hl1.code (gc (q_lt h0) gn)))
theorem rpl_L0_p1{l:List (List Int)}{i s'100:Nat}(h0:(i:Int)<(l.length:Int))(hl1:LoopOK Tryz.prog 0 zU12c1 (rpl_S1 l i 0) .ret (setS (rpl_S1 l i s'100) [(2,(.kb false))])):CodeOK Tryz.prog 0 zU12c4 (rpl_S0 l i) .ret (setS (rpl_S0 l i) [(2,(.kb false))]):=by
  exact CodeOK.fin (g:=⟨(rng [(1,1),(4,39)]),[],[],[]⟩) (o:=[bT,.k 5 ⟨(rng [(1,2),(11,32)]),[],[],[]⟩ .ret (setS (rpl_S1 l i s'100) [(2,(.kb false))])]) (l:=[_,_]) (by kernel_rfl) (gc hl1.code (gc (q_lt h0) gn))
theorem rpl_L0_p2{l:List (List Int)}{i:Nat}(h0:(l.length:Int)≤(i:Int)):CodeOK Tryz.prog 0 zU12c4 (rpl_S0 l i) (.exit 0) (rpl_S0 l i):=by
  exact CodeOK.fin (g:=⟨(rng [(1,2),(4,39)]),[],[],[]⟩) (o:=[bF]) (l:=[_]) (by kernel_rfl) (gc (q_ltF h0) gn)
theorem rpl_L1_p0{l:List (List Int)}{i s:Nat}{x200:List Int}{x201:Int}(h0:l[i]? = some x200)(h1:(s:Int)<(x200.length:Int))(h2:x200[s]? = some x201)(h3:(0:Int)<x201)(h4:x200.length≤1000)(h5:(1:Int)<(((x200.count x201):Nat):Int)):CodeOK Tryz.prog 0 zU12c1 (rpl_S1 l i s) .ret (setS (rpl_S1 l i s) [(2,(.kb false))]):=by
  exact CodeOK.fin (g:=⟨(rng [(1,1),(11,32)]),[],[],[]⟩) (o:=[.x (intsP x200),bT,.x (intsP x200),.x (intP x201),bT,bT,bT,bT,.x (intsP x200),bT,bT,bT,bT,.x (intsP x200),bT,bT,bT,.x (intP x201),bT,.c (.p (intP (((x200.count x201):Nat):Int))) [],bT,bT,bT]) (l:=[_,_,_,_,_,_,_,_,_,_,_,_,_,_,_,_,_,_,_,_,_,_,_,_,_,_,_,_,_]) (by kernel_rfl) (gc (q_lt h5) (gc (q_lt h3) (gc (q_lt h3) (gc (fk 0 (shr_ok x200 x201 h4) rfl) (gc (q_lt h3) (gc (atm intP h2) (gc (q_lt h3) (gc (ixn intP h2) (gc (q_lt h3) (gc (q_lt h3) (gc (atm intsP h0) (gc (q_lt h3) (gc (ixn intsP h0) (gc (q_lt h3) (gc (q_lt h3) (gc (q_lt h3) (gc (atm intsP h0) (gc (q_lt h3) (gc (ixn intsP h0) (gc (q_lt h3) (gc (q_lt h3) (gc (q_lt h3) (gc (atm intP h2) (gc (ixn intP h2) (gc (atm intsP h0) (gc (ixn intsP h0) (gc (q_lt h1) (gc (atm intsP h0) (gc (ixn intsP h0) gn)))))))))))))))))))))))))))))
theorem rpl_L1_p1{l:List (List Int)}{i s:Nat}{x200:List Int}{x201:Int}{s':Nat}(h0:l[i]? = some x200)(h1:(s:Int)<(x200.length:Int))(h2:x200[s]? = some x201)(h3:(0:Int)<x201)(h4:x200.length≤1000)(h5:(((x200.count x201):Nat):Int)≤(1:Int))(h6:inR (((s+1):Nat):Int))(es':s'=(s+1)):CodeOK Tryz.prog 0 zU12c1 (rpl_S1 l i s) .normal (rpl_S1 l i s'):=by
  subst es'
  exact CodeOK.fin (g:=⟨(rng [(1,2),(11,32)]),[],[],[]⟩) (o:=[.x (intsP x200),bT,.x (intsP x200),.x (intP x201),bT,bT,bT,bT,.x (intsP x200),bT,bT,bT,bT,.x (intsP x200),bT,bT,bT,.x (intP x201),bT,.c (.p (intP (((x200.count x201):Nat):Int))) [],bT,bT,bF]) (l:=[_,_,_,_,_,_,_,_,_,_,_,_,_,_,_,_,_,_,_,_,_,_,_,_,_,_,_,_,_,_]) (by kernel_rfl) (gc h6 (gc (q_ltF h5) (gc (q_lt h3) (gc (q_lt h3) (gc (fk 0 (shr_ok x200 x201 h4) rfl) (gc (q_lt h3) (gc (atm intP h2) (gc (q_lt h3) (gc (ixn intP h2) (gc (q_lt h3) (gc (q_lt h3) (gc (atm intsP h0) (gc (q_lt h3) (gc (ixn intsP h0) (gc (q_lt h3) (gc (q_lt h3) (gc (q_lt h3) (gc (atm intsP h0) (gc (q_lt h3) (gc (ixn intsP h0) (gc (q_lt h3) (gc (q_lt h3) (gc (q_lt h3) (gc (atm intP h2) (gc (ixn intP h2) (gc (atm intsP h0) (gc (ixn intsP h0) (gc (q_lt h1) (gc (atm intsP h0) (gc (ixn intsP h0) gn))))))))))))))))))))))))))))))
theorem rpl_L1_p2{l:List (List Int)}{i s:Nat}{x200:List Int}{x201:Int}{s':Nat}(h0:l[i]? = some x200)(h1:(s:Int)<(x200.length:Int))(h2:x200[s]? = some x201)(h3:x201≤(0:Int))(h4:inR (((s+1):Nat):Int))(es':s'=(s+1)):CodeOK Tryz.prog 0 zU12c1 (rpl_S1 l i s) .normal (rpl_S1 l i s'):=by
  subst es'
  exact CodeOK.fin (g:=⟨(rng [(1,2),(11,32)]),[],[],[]⟩) (o:=[.x (intsP x200),bT,.x (intsP x200),.x (intP x201),bF,bF,bF,bF,bF,bF,bF,bF,bF,bF,bF,bF,bF,bF]) (l:=[_,_,_,_,_,_,_,_,_,_,_,_,_,_,_,_,_,_,_,_,_,_]) (by kernel_rfl) (gc h4 (gc (q_ltF h3) (gc (q_ltF h3) (gc (q_ltF h3) (gc (q_ltF h3) (gc (q_ltF h3) (gc (q_ltF h3) (gc (q_ltF h3) (gc (q_ltF h3) (gc (q_ltF h3) (gc (q_ltF h3) (gc (q_ltF h3) (gc (q_ltF h3) (gc (q_ltF h3) (gc (q_ltF h3) (gc (atm intP h2) (gc (ixn intP h2) (gc (atm intsP h0) (gc (ixn intsP h0) (gc (q_lt h1) (gc (atm intsP h0) (gc (ixn intsP h0) gn))))))))))))))))))))))
theorem rpl_L1_p3{l:List (List Int)}{i s:Nat}{x200:List Int}(h0:l[i]? = some x200)(h1:(x200.length:Int)≤(s:Int)):CodeOK Tryz.prog 0 zU12c1 (rpl_S1 l i s) (.exit 2) (rpl_S1 l i s):=by
  exact CodeOK.fin (g:=⟨(rng [(1,2),(11,32)]),[],[],[]⟩) (o:=[.x (intsP x200),bF]) (l:=[_,_,_]) (by kernel_rfl) (gc (q_ltF h1) (gc (atm intsP h0) (gc (ixn intsP h0) gn)))
theorem rpl_in(l:List (List Int))(i:Nat)(x:List Int)(hx:l[i]? = some x)(hl:x.length≤1000):(pB x=false∧∃ s,LoopOK Tryz.prog 0 zU12c1 (rpl_S1 l i 0) .ret (setS (rpl_S1 l i s) [(2,.kb false)]))∨(pB x=true∧∃ s,LoopOK Tryz.prog 0 zU12c1 (rpl_S1 l i 0) (.exit 2) (rpl_S1 l i s)):=by
  unfold pB
  rcases LoopOK.find (P:=Tryz.prog) (k:=0) (b:=zU12c1) (fun s=>rpl_S1 l i s) (fun s _=>setS (rpl_S1 l i s) [(2,.kb false)]) (rpl_S1 l i x.length) .ret (.exit 2) (by simp) (by simp) (fun p=>decide (0<p) && decide (1<x.count p)) x
    (fun s p hp hq=>by
      have hs:=lt_of_at hp
      by_cases e:0<p
      · have:¬ 1<x.count p:=by simpa [e] using hq
        exact rpl_L1_p1 hx (by omega) hp e hl (by omega) (inR_nat (by omega)) rfl
      · exact rpl_L1_p2 hx (by omega) hp (by omega) (inR_nat (by omega)) rfl)
    (fun s p hp hq=>by
      have hs:=lt_of_at hp
      simp only [Bool.and_eq_true,decide_eq_true_eq] at hq
      exact rpl_L1_p0 hx (by omega) hp hq.1 hl (by omega))
    (rpl_L1_p3 hx (by omega)) with ⟨j,y,g1,g2,g3,g4⟩ | ⟨_,g1,g2⟩
  · exact .inl ⟨by rw [List.any_eq_true.2 ⟨y,List.mem_of_getElem? g1,g3⟩];rfl,_,g4⟩
  · exact .inr ⟨by rw [g1];rfl,_,g2⟩
theorem rpl_ok(l:List (List Int))(h1:l.length≤1000)(h2:∀ r∈l,r.length≤1000){base:Nat}:FV Tryz.prog 132 [.p (rowsP l)] base (.p (blP (l.all pB))) []:=by
  rw [List.all_eq_not_any_not]
  rcases LoopOK.find (P:=Tryz.prog) (k:=0) (b:=zU12c4) (fun i=>rpl_S0 l i) (fun i _=>setS (rpl_S0 l i) [(2,.kb false)]) (rpl_S0 l l.length) .ret (.exit 0) (by simp) (by simp) (fun r => !pB r) l
    (fun i x hx hp=>by
      have hi:=lt_of_at hx
      rcases rpl_in l i x hx (h2 x (List.mem_of_getElem? hx)) with ⟨d1,s,d2⟩ | ⟨d1,s,d2⟩
      · rw [d1] at hp;cases hp
      · exact rpl_L0_p0 (by omega) d2 (inR_nat (by omega)) rfl)
    (fun i x hx hp=>by
      have hi:=lt_of_at hx
      rcases rpl_in l i x hx (h2 x (List.mem_of_getElem? hx)) with ⟨d1,s,d2⟩ | ⟨d1,s,d2⟩
      · exact rpl_L0_p1 (by omega) d2
      · rw [d1] at hp;cases hp)
    (rpl_L0_p2 (by omega)) with ⟨i,x,g1,g2,g3,g4⟩ | ⟨_,g1,g2⟩
  · rw [List.any_eq_true.2 ⟨x,List.mem_of_getElem? g1,g3⟩];exact rpl_p1 g4
  · rw [g1];exact rpl_p0 g2
def rwo_S0(c:Cup)(k:Int)(i:Nat)(on:Nat)(oc:List PV):St:=⟨fr 28 [(1,(.p (intP k))),(2,(.ptr 0 0)),(4,(.p nilS)),(5,(.own 1)),(6,(.p (intP (i:Int))))],[some (.box 37 [(.p (intP c.sk)),(.p (intP c.ra)),(.p (intP c.be)),(.p (intsP c.pts)),(.p (rowsP c.done))]),some (.row 22 on oc)]⟩
theorem rwo_p0{c:Cup}{k:Int}{i'0:Nat}{o'1:List (List Int)}(hl0:LoopOK Tryz.prog 0 zU12c6 (rwo_S0 c k c.done.length 0 []) (.exit 0) (rwo_S0 c k i'0 o'1.length (o'1.map intsP))){base:Nat}:FV Tryz.prog 78 [(.p (cupP c)),(.p (intP k))] base (.p (rowsP o'1)) []:=by
  exact FV.frz (FMM.fin (k:=0) (g:=⟨[],[],[1],[]⟩) rfl Tryz.func78 rfl (o:=[.k 8 ⟨(rng [(0,1),(3,1),(7,20)]),[0,1],[],[(5,22)]⟩ (.exit 0) (rwo_S0 c k i'0 o'1.length (o'1.map intsP))]) (l:=[_]) (by kernel_rfl) (gc hl0.code gn)) (by kernel_rfl)
theorem rwo_L0_p0{c:Cup}{k:Int}{i:Nat}{o:List (List Int)}{i':Nat}{o':List (List Int)}(h0:(i:Int)<c.ra)(h1:0≤c.sk∧c.sk≤c.sk∧c.sk≤1000000)(h2:0≤k∧k<((c.sk.toNat:Nat):Int))(h3:(k.toNat*1)<(List.replicate c.sk.toNat (intP 0)).length)(h4:[(PV.sl c.sk.toNat ((List.replicate c.sk.toNat (intP 0)).set (k.toNat*1) (intP 1)))].length=1*1∧o.length+1≤1000000)(h5:inR (((i+1):Nat):Int))(ei':i'=(i+1))(eo'n:o'.length=(o.length+1))(eo'c:o'.map intsP=((o.map intsP)++[(PV.sl c.sk.toNat ((List.replicate c.sk.toNat (intP 0)).set (k.toNat*1) (intP 1)))])):CodeOK Tryz.prog 0 zU12c6 (rwo_S0 c k i o.length (o.map intsP)) .normal (rwo_S0 c k i' o'.length (o'.map intsP)):=by
  subst ei'
  have raw:CodeOK Tryz.prog 0 zU12c6 (rwo_S0 c k i o.length (o.map intsP)) .normal (rwo_S0 c k (i+1) (o.length+1) ((o.map intsP)++[(PV.sl c.sk.toNat ((List.replicate c.sk.toNat (intP 0)).set (k.toNat*1) (intP 1)))])):=CodeOK.fin (g:=⟨(rng [(0,1),(3,1),(7,20)]),[0,4],[],[]⟩) (o:=[bT]) (l:=[_,_,_,_,_,_]) (by kernel_rfl) (gc h5 (gc h4 (gc h3 (gc h2 (gc h1 (gc (q_lt h0) gn))))))
  exact raw.cast (by rw [eo'n,eo'c])
theorem rwo_L0_p1{c:Cup}{k:Int}{i:Nat}{o:List (List Int)}(h0:c.ra≤(i:Int)):CodeOK Tryz.prog 0 zU12c6 (rwo_S0 c k i o.length (o.map intsP)) (.exit 0) (rwo_S0 c k i o.length (o.map intsP)):=by
  exact CodeOK.fin (g:=⟨(rng [(0,1),(3,1),(7,20)]),[0,1],[],[]⟩) (o:=[bF]) (l:=[_]) (by kernel_rfl) (gc (q_ltF h0) gn)
theorem rwo_ok(c:Cup)(k:Int)(hV:KL.Valid c)(hk:0≤k∧k<c.sk){base:Nat}:FV Tryz.prog 78 [.p (cupP c),.p (intP k)] base (.p (rowsP (wonM c k.toNat))) []:=by
  have s1:=hV.sk1
  have s2:=hV.sk2
  have d1:=hV.dn
  have r2:=hV.ra2
  have hw:∀ n s,intsP (KL.wonRace n s) = .sl n ((List.replicate n (intP 0)).set s (intP 1)):=fun n s=>by
    unfold KL.wonRace intsP
    rw [List.length_set,List.length_replicate,List.map_set,List.map_replicate]
  have h:=LoopOK.count (P:=Tryz.prog) (k:=0) (b:=zU12c6) (e := .exit 0) (R:=rwo_S0 c k (c.done.length+(c.ra.toNat-c.done.length)) (wonM c k.toNat).length ((wonM c k.toNat).map intsP)) (c.ra.toNat-c.done.length) (fun j=>rwo_S0 c k (c.done.length+j) (List.replicate j (KL.wonRace c.sk.toNat k.toNat)).length ((List.replicate j (KL.wonRace c.sk.toNat k.toNat)).map intsP))
    (fun j hj=>rwo_L0_p0 (o:=List.replicate j (KL.wonRace c.sk.toNat k.toNat)) (o':=List.replicate (j+1) (KL.wonRace c.sk.toNat k.toNat)) (by omega) ⟨by omega,by omega,by omega⟩ (by omega) (by simp;omega) (by simp;omega) (inR_nat (by omega)) rfl (by simp) (by rw [List.replicate_succ',List.map_append,List.map_singleton,hw,Nat.mul_one]))
    (rwo_L0_p1 (o:=wonM c k.toNat) (by omega)) (by simp)
  exact rwo_p0 h
theorem rca_p0{c:Cup}{k:Int}{r0:Bool}(h0:KL.Valid c)(h1:0≤k∧k<c.sk)(h2:c.done.length+(wonM c k.toNat).length≤1000)(h3:KL.Valid (withC c (wonM c k.toNat)))(h4:0≤k∧k<(withC c (wonM c k.toNat)).sk)(er0:r0=((rankM (withC c (wonM c k.toNat)) k.toNat) == (1:Int))){base:Nat}:FV Tryz.prog 79 [(.p (cupP c)),(.p (intP k))] base (.p (blP r0)) []:=by
  subst er0
  exact FV.fin Tryz.func79 rfl (o:=[.c (.p (rowsP (wonM c k.toNat))) [],.c (.p (.agg [(intP ((withC c (wonM c k.toNat)).sk)),(intP ((withC c (wonM c k.toNat)).ra)),(intP ((withC c (wonM c k.toNat)).be)),(intsP ((withC c (wonM c k.toNat)).pts)),(rowsP ((withC c (wonM c k.toNat)).done))])) [],.c (.p (intP (rankM (withC c (wonM c k.toNat)) k.toNat))) []]) (l:=[_,_,_]) (by kernel_rfl) (gc (fk 9 (rrk_ok (withC c (wonM c k.toNat)) k h3 h4) rfl) (gc (fk 5 (rwi_ok c (wonM c k.toNat) h2) rfl) (gc (fk 1 (rwo_ok c k h0 h1) rfl) gn)))
theorem won_len{c:Cup}(hV:KL.Valid c)(s:Nat):c.done.length+(wonM c s).length≤1000:=by
  have d1:=hV.dn
  have r2:=hV.ra2
  unfold wonM
  rw [List.length_replicate];omega
theorem rca_ok(c:Cup)(k:Int)(hV:KL.Valid c)(hk:0≤k∧k<c.sk){base:Nat}:FV Tryz.prog 79 [.p (cupP c),.p (intP k)] base (.p (blP (canM c k.toNat))) [] :=
  rca_p0 hV hk (won_len hV _) (KL.valid_won hV (by omega)) hk rfl
def rsu_S0(c:Cup)(k:Int)(s:Nat):St:=⟨fr 28 [(1,(.p (intP k))),(2,(.ptr 0 0)),(5,(.p (intP (s:Int))))],[some (.box 37 [(.p (intP c.sk)),(.p (intP c.ra)),(.p (intP c.be)),(.p (intsP c.pts)),(.p (rowsP c.done))])]⟩
theorem rsu_p0{c:Cup}{k:Int}{s'0:Nat}{r0:Bool}(hl0:LoopOK Tryz.prog 0 zU12c2 (rsu_S0 c k 0) (.exit 0) (rsu_S0 c k s'0))(h1:KL.Valid c)(h2:0≤k∧k<c.sk)(er0:r0=(canM c k.toNat)){base:Nat}:FV Tryz.prog 80 [(.p (cupP c)),(.p (intP k))] base (.p (blP r0)) []:=by
  subst er0
  exact FV.fin Tryz.func80 rfl (o:=[.k 6 ⟨(rng [(0,1),(3,2),(6,19)]),[0],[],[]⟩ (.exit 0) (rsu_S0 c k s'0),.c (.p (blP (canM c k.toNat))) []]) (l:=[_,_]) (by kernel_rfl) (gc (fk 1 (rca_ok c k h1 h2) rfl) (gc hl0.code gn))
theorem rsu_p1{c:Cup}{k:Int}{s'0:Nat}(hl0:LoopOK Tryz.prog 0 zU12c2 (rsu_S0 c k 0) .ret (setS (rsu_S0 c k s'0) [(4,(.kb false))])){base:Nat}:FV Tryz.prog 80 [(.p (cupP c)),(.p (intP k))] base (.p (blP false)) []:=by
  exact FV.fin Tryz.func80 rfl (o:=[.k 6 ⟨(rng [(0,1),(3,2),(6,19)]),[0],[],[]⟩ .ret (setS (rsu_S0 c k s'0) [(4,(.kb false))])]) (l:=[_]) (by kernel_rfl) (gc hl0.code gn)
theorem rsu_L0_p0{c:Cup}{k:Int}{s:Nat}(h0:(s:Int)<c.sk)(h1:(s:Int)≠k)(h2:KL.Valid c)(h3:0≤(s:Int)∧(s:Int)<c.sk)(h4:c.done.length+(wonM c (s:Int).toNat).length≤1000)(h5:KL.Valid (withC c (wonM c (s:Int).toNat)))(h6:0≤(s:Int)∧(s:Int)<(withC c (wonM c (s:Int).toNat)).sk)(h7:0≤k∧k<(withC c (wonM c (s:Int).toNat)).sk)(h8:(betS (withC c (wonM c (s:Int).toNat)) (s:Int).toNat k.toNat)=true):CodeOK Tryz.prog 0 zU12c2 (rsu_S0 c k s) .ret (setS (rsu_S0 c k s) [(4,(.kb false))]):=by
  exact CodeOK.fin (g:=⟨(rng [(0,1),(3,1),(6,19)]),[0],[],[]⟩) (o:=[bT,bT,bT,bT,bT,.c (.p (rowsP (wonM c (s:Int).toNat))) [],bT,.c (.p (.agg [(intP ((withC c (wonM c (s:Int).toNat)).sk)),(intP ((withC c (wonM c (s:Int).toNat)).ra)),(intP ((withC c (wonM c (s:Int).toNat)).be)),(intsP ((withC c (wonM c (s:Int).toNat)).pts)),(rowsP ((withC c (wonM c (s:Int).toNat)).done))])) [],bT,bT,bT,.c (.p (blP (betS (withC c (wonM c (s:Int).toNat)) (s:Int).toNat k.toNat))) [],bT,bT]) (l:=[_,_,_,_,_,_,_,_,_,_,_,_,_,_]) (by kernel_rfl) (gc h8 (gc (q_neT h1) (gc (fk 9 (rbt_ok (withC c (wonM c (s:Int).toNat)) (s:Int) k h5 h6 h7) rfl) (gc (q_neT h1) (gc (q_neT h1) (gc (q_neT h1) (gc (fk 5 (rwi_ok c (wonM c (s:Int).toNat) h4) rfl) (gc (q_neT h1) (gc (fk 1 (rwo_ok c (s:Int) h2 h3) rfl) (gc (q_neT h1) (gc (q_neT h1) (gc (q_neT h1) (gc (q_neT h1) (gc (q_lt h0) gn))))))))))))))
theorem rsu_L0_p1{c:Cup}{k:Int}{s s':Nat}(h0:(s:Int)<c.sk)(h1:(s:Int)≠k)(h2:KL.Valid c)(h3:0≤(s:Int)∧(s:Int)<c.sk)(h4:c.done.length+(wonM c (s:Int).toNat).length≤1000)(h5:KL.Valid (withC c (wonM c (s:Int).toNat)))(h6:0≤(s:Int)∧(s:Int)<(withC c (wonM c (s:Int).toNat)).sk)(h7:0≤k∧k<(withC c (wonM c (s:Int).toNat)).sk)(h8:(betS (withC c (wonM c (s:Int).toNat)) (s:Int).toNat k.toNat)=false)(h9:inR (((s+1):Nat):Int))(es':s'=(s+1)):CodeOK Tryz.prog 0 zU12c2 (rsu_S0 c k s) .normal (rsu_S0 c k s'):=by
  subst es'
  exact CodeOK.fin (g:=⟨(rng [(0,1),(3,2),(6,19)]),[0],[],[]⟩) (o:=[bT,bT,bT,bT,bT,.c (.p (rowsP (wonM c (s:Int).toNat))) [],bT,.c (.p (.agg [(intP ((withC c (wonM c (s:Int).toNat)).sk)),(intP ((withC c (wonM c (s:Int).toNat)).ra)),(intP ((withC c (wonM c (s:Int).toNat)).be)),(intsP ((withC c (wonM c (s:Int).toNat)).pts)),(rowsP ((withC c (wonM c (s:Int).toNat)).done))])) [],bT,bT,bT,.c (.p (blP (betS (withC c (wonM c (s:Int).toNat)) (s:Int).toNat k.toNat))) [],bT,bF]) (l:=[_,_,_,_,_,_,_,_,_,_,_,_,_,_,_]) (by kernel_rfl) (gc h9 (gc h8 (gc (q_neT h1) (gc (fk 9 (rbt_ok (withC c (wonM c (s:Int).toNat)) (s:Int) k h5 h6 h7) rfl) (gc (q_neT h1) (gc (q_neT h1) (gc (q_neT h1) (gc (fk 5 (rwi_ok c (wonM c (s:Int).toNat) h4) rfl) (gc (q_neT h1) (gc (fk 1 (rwo_ok c (s:Int) h2 h3) rfl) (gc (q_neT h1) (gc (q_neT h1) (gc (q_neT h1) (gc (q_neT h1) (gc (q_lt h0) gn)))))))))))))))
theorem rsu_L0_p2{c:Cup}{k:Int}{s s':Nat}(h0:(s:Int)<c.sk)(h1:(s:Int)=k)(h2:inR (((s+1):Nat):Int))(es':s'=(s+1)):CodeOK Tryz.prog 0 zU12c2 (rsu_S0 c k s) .normal (rsu_S0 c k s'):=by
  subst es'
  exact CodeOK.fin (g:=⟨(rng [(0,1),(3,2),(6,19)]),[0],[],[]⟩) (o:=[bT,bF,bF,bF,bF,bF,bF,bF,bF,bF]) (l:=[_,_,_,_,_,_,_,_,_,_,_]) (by kernel_rfl) (gc h2 (gc (q_neF h1) (gc (q_neF h1) (gc (q_neF h1) (gc (q_neF h1) (gc (q_neF h1) (gc (q_neF h1) (gc (q_neF h1) (gc (q_neF h1) (gc (q_neF h1) (gc (q_lt h0) gn)))))))))))
theorem rsu_L0_p3{c:Cup}{k:Int}{s:Nat}(h0:c.sk≤(s:Int)):CodeOK Tryz.prog 0 zU12c2 (rsu_S0 c k s) (.exit 0) (rsu_S0 c k s):=by
  exact CodeOK.fin (g:=⟨(rng [(0,1),(3,2),(6,19)]),[0],[],[]⟩) (o:=[bF]) (l:=[_]) (by kernel_rfl) (gc (q_ltF h0) gn)
def pasB(c:Cup)(s o:Nat):Bool:=decide (o≠s) && betS (withC c (wonM c o)) o s
theorem sure_none{c:Cup}(hV:KL.Valid c){s:Nat}(hs:(s:Int)<c.sk):sureM c s = !((List.range c.sk.toNat).any (pasB c s)):=by
  cases e:(List.range c.sk.toNat).any (pasB c s) with
  | true =>
    obtain ⟨o,ho,h⟩:=List.any_eq_true.1 e
    unfold pasB at h
    simp only [Bool.and_eq_true,decide_eq_true_eq] at h
    cases e2:sureM c s with
    | false=>rfl
    | true =>
      have ho':=List.mem_range.1 ho
      have hr:=rank_one.1 (sure_first hV hs (fur_won hV (show (o:Int)<c.sk by omega)) e2) o ho'
      rw [hr] at h;cases h.2
  | false =>
    rw [Bool.not_false]
    refine first_sure hV hs fun k hk=>rank_one.2 fun o ho => ?_
    have ho':o<c.sk.toNat:=ho
    cases e2:betS (withC c (wonM c k)) o s with
    | false=>rfl
    | true =>
      have hne:o≠s:=fun q=>by subst q;rw [betS_self] at e2;cases e2
      have ho2:(o:Int)<c.sk:=by omega
      have hF:=fur_won hV hk
      have hb:=betS_dom (dom_won hV ho2 hF.len) (dom_other hV hF.ok ho2 (Ne.symm hne)) e2
      have:=List.any_eq_false.1 e o (List.mem_range.2 ho')
      unfold pasB at this
      simp [hne,hb] at this
theorem rsu_ok(c:Cup)(k:Int)(hV:KL.Valid c)(hk:0≤k∧k<c.sk){base:Nat}:FV Tryz.prog 80 [.p (cupP c),.p (intP k)] base (.p (blP (sureM c k.toNat))) []:=by
  have s1:=hV.sk1
  have s2:=hV.sk2
  have hs:((k.toNat:Nat):Int)<c.sk:=by omega
  have sn:=sure_none hV hs
  rcases LoopOK.find (P:=Tryz.prog) (k:=0) (b:=zU12c2) (fun s=>rsu_S0 c k s) (fun s _=>setS (rsu_S0 c k s) [(4,.kb false)]) (rsu_S0 c k c.sk.toNat) .ret (.exit 0) (by simp) (by simp) (pasB c k.toNat) (List.range c.sk.toNat)
    (fun i x hx hp=>by
      obtain ⟨rfl,hi⟩:=range_at hx
      by_cases e:(x:Int)=k
      · exact rsu_L0_p2 (by omega) e (inR_nat (by omega)) rfl
      · have hne:x≠k.toNat:=by omega
        have hb:betS (withC c (wonM c x)) x k.toNat=false:=by simpa [pasB,hne] using hp
        exact rsu_L0_p1 (by omega) e hV (by omega) (won_len hV _) (KL.valid_won hV (by omega)) ⟨by omega,by show (x:Int)<c.sk;omega⟩ hk hb (inR_nat (by omega)) rfl)
    (fun i x hx hp=>by
      obtain ⟨rfl,hi⟩:=range_at hx
      unfold pasB at hp
      simp only [Bool.and_eq_true,decide_eq_true_eq] at hp
      exact rsu_L0_p0 (by omega) (by omega) hV (by omega) (won_len hV _) (KL.valid_won hV (by omega)) ⟨by omega,by show (x:Int)<c.sk;omega⟩ hk hp.2)
    (by rw [List.length_range];exact rsu_L0_p3 (by omega)) with ⟨i,x,g1,g2,g3,g4⟩ | ⟨_,g1,g2⟩
  · have:(List.range c.sk.toNat).any (pasB c k.toNat)=true:=List.any_eq_true.2 ⟨x,List.mem_of_getElem? g1,g3⟩
    rw [sn,this];exact rsu_p1 g4
  · rw [g1] at sn
    have hc:=sure_can hV hs sn
    rw [sn]
    exact rsu_p0 g2 hV hk hc.symm
theorem rsh_p0{c:Cup}{k:Int}{f:List (List Int)}{r0:Int}(h0:KL.Small c)(h1:(checkP c)≠(0:Int))(er0:r0=(checkP c)){base:Nat}:FV Tryz.prog 60 [(.p (cupP c)),(.p (intP k)),(.p (rowsP f))] base (.tup [(.p (blP false)),(.p (intP r0))]) []:=by
  subst er0
  exact FV.fin Tryz.func60 rfl (o:=[.c (.p (intP (checkP c))) [],bT]) (l:=[_,_]) (by kernel_rfl) (gc (q_neT h1) (gc (fk 1 (chk_ok c h0) rfl) gn))
theorem rsh_p1{c:Cup}{k:Int}{f:List (List Int)}(h0:KL.Small c)(h1:(checkP c)=(0:Int))(h2:inR (c.sk-(1:Int)))(h3:(outB k (0:Int) (c.sk-(1:Int)))=true){base:Nat}:FV Tryz.prog 60 [(.p (cupP c)),(.p (intP k)),(.p (rowsP f))] base (.tup [(.p (blP false)),(.p (intP 1))]) []:=by
  exact FV.fin Tryz.func60 rfl (o:=[.c (.p (intP (checkP c))) [],bF,.c (.p (blP (outB k (0:Int) (c.sk-(1:Int))))) [],bT]) (l:=[_,_,_,_,_]) (by kernel_rfl) (gc h3 (gc (fk 1 (outs_ok k (0:Int) (c.sk-(1:Int))) rfl) (gc h2 (gc (q_neF h1) (gc (fk 1 (chk_ok c h0) rfl) gn)))))
theorem rsh_p2{c:Cup}{k:Int}{f:List (List Int)}(h0:KL.Small c)(h1:(checkP c)=(0:Int))(h2:inR (c.sk-(1:Int)))(h3:(outB k (0:Int) (c.sk-(1:Int)))=false)(h4:inR (c.ra-(c.done.length:Int)))(h5:(f.length:Int)≠(c.ra-(c.done.length:Int))){base:Nat}:FV Tryz.prog 60 [(.p (cupP c)),(.p (intP k)),(.p (rowsP f))] base (.tup [(.p (blP false)),(.p (intP 2))]) []:=by
  exact FV.fin Tryz.func60 rfl (o:=[.c (.p (intP (checkP c))) [],bF,.c (.p (blP (outB k (0:Int) (c.sk-(1:Int))))) [],bF,bT]) (l:=[_,_,_,_,_,_,_]) (by kernel_rfl) (gc (q_neT h5) (gc h4 (gc h3 (gc (fk 1 (outs_ok k (0:Int) (c.sk-(1:Int))) rfl) (gc h2 (gc (q_neF h1) (gc (fk 1 (chk_ok c h0) rfl) gn)))))))
theorem rsh_p3{c:Cup}{k:Int}{f:List (List Int)}{n0:Cup}{e1:Int}(h0:KL.Small c)(h1:(checkP c)=(0:Int))(h2:inR (c.sk-(1:Int)))(h3:(outB k (0:Int) (c.sk-(1:Int)))=false)(h4:inR (c.ra-(c.done.length:Int)))(h5:(f.length:Int)=(c.ra-(c.done.length:Int)))(h6:∀ nb:Nat,FC Tryz.prog 45 [(.p (cupP c)),(.p (rowsP f))] [] nb (.tup [(.p (cupP n0)),(.p (intP e1))]) [])(h7:e1≠(0:Int)){base:Nat}:FV Tryz.prog 60 [(.p (cupP c)),(.p (intP k)),(.p (rowsP f))] base (.tup [(.p (blP false)),(.p (intP e1))]) []:=by
  exact FV.fin Tryz.func60 rfl (o:=[.c (.p (intP (checkP c))) [],bF,.c (.p (blP (outB k (0:Int) (c.sk-(1:Int))))) [],bF,bF,.c (.tup [(.p (cupP n0)),(.p (intP e1))]) [],bT]) (l:=[_,_,_,_,_,_,_,_,_]) (by kernel_rfl) (gc (q_neT h7) (gc (h6 1) (gc (q_neF h5) (gc h4 (gc h3 (gc (fk 1 (outs_ok k (0:Int) (c.sk-(1:Int))) rfl) (gc h2 (gc (q_neF h1) (gc (fk 1 (chk_ok c h0) rfl) gn)))))))))
theorem rsh_p4{c:Cup}{k:Int}{f:List (List Int)}{n0:Cup}{e1:Int}(h0:KL.Small c)(h1:(checkP c)=(0:Int))(h2:inR (c.sk-(1:Int)))(h3:(outB k (0:Int) (c.sk-(1:Int)))=false)(h4:inR (c.ra-(c.done.length:Int)))(h5:(f.length:Int)=(c.ra-(c.done.length:Int)))(h6:∀ nb:Nat,FC Tryz.prog 45 [(.p (cupP c)),(.p (rowsP f))] [] nb (.tup [(.p (cupP n0)),(.p (intP e1))]) [])(h7:e1=(0:Int))(h8:f.length≤1000)(h9:∀ r∈f,r.length≤1000)(h10:(f.all pB)=false){base:Nat}:FV Tryz.prog 60 [(.p (cupP c)),(.p (intP k)),(.p (rowsP f))] base (.tup [(.p (blP false)),(.p (intP 8))]) []:=by
  exact FV.fin Tryz.func60 rfl (o:=[.c (.p (intP (checkP c))) [],bF,.c (.p (blP (outB k (0:Int) (c.sk-(1:Int))))) [],bF,bF,.c (.tup [(.p (cupP n0)),(.p (intP e1))]) [],bF,.c (.p (blP (f.all pB))) [],bT]) (l:=[_,_,_,_,_,_,_,_,_,_,_]) (by kernel_rfl) (gc (q_not h10) (gc (fk 2 (rpl_ok f h8 h9) rfl) (gc (q_neF h7) (gc (h6 1) (gc (q_neF h5) (gc h4 (gc h3 (gc (fk 1 (outs_ok k (0:Int) (c.sk-(1:Int))) rfl) (gc h2 (gc (q_neF h1) (gc (fk 1 (chk_ok c h0) rfl) gn)))))))))))
theorem rsh_p5{c:Cup}{k:Int}{f:List (List Int)}{n0:Cup}{e1:Int}{r0:Bool}(h0:KL.Small c)(h1:(checkP c)=(0:Int))(h2:inR (c.sk-(1:Int)))(h3:(outB k (0:Int) (c.sk-(1:Int)))=false)(h4:inR (c.ra-(c.done.length:Int)))(h5:(f.length:Int)=(c.ra-(c.done.length:Int)))(h6:∀ nb:Nat,FC Tryz.prog 45 [(.p (cupP c)),(.p (rowsP f))] [] nb (.tup [(.p (cupP n0)),(.p (intP e1))]) [])(h7:e1=(0:Int))(h8:f.length≤1000)(h9:∀ r∈f,r.length≤1000)(h10:(f.all pB)=true)(h11:KL.Valid n0)(h12:0≤k∧k<n0.sk)(er0:r0=((rankM n0 k.toNat) == (1:Int))){base:Nat}:FV Tryz.prog 60 [(.p (cupP c)),(.p (intP k)),(.p (rowsP f))] base (.tup [(.p (blP r0)),(.p (intP 0))]) []:=by
  subst er0
  exact FV.fin Tryz.func60 rfl (o:=[.c (.p (intP (checkP c))) [],bF,.c (.p (blP (outB k (0:Int) (c.sk-(1:Int))))) [],bF,bF,.c (.tup [(.p (cupP n0)),(.p (intP e1))]) [],bF,.c (.p (blP (f.all pB))) [],bF,.c (.p (intP (rankM n0 k.toNat))) []]) (l:=[_,_,_,_,_,_,_,_,_,_,_,_]) (by kernel_rfl) (gc (fk 2 (rrk_ok n0 k h11 h12) rfl) (gc (q_notF h10) (gc (fk 2 (rpl_ok f h8 h9) rfl) (gc (q_neF h7) (gc (h6 1) (gc (q_neF h5) (gc h4 (gc h3 (gc (fk 1 (outs_ok k (0:Int) (c.sk-(1:Int))) rfl) (gc h2 (gc (q_neF h1) (gc (fk 1 (chk_ok c h0) rfl) gn))))))))))))
theorem shows_both(c:Cup)(k:Int)(f:List (List Int))(hS:KL.Small c)(hW:KL.Small (withC c f)):∃ (b:Bool) (e:Int),(∀ nb:Nat,FC Tryz.prog 72 [.p (cupP c),.p (intP k),.p (rowsP f)] [] nb (.tup [.p (blP b),.p (intP e)]) [])∧(∀ nb:Nat,FC Tryz.prog 60 [.p (cupP c),.p (intP k),.p (rowsP f)] [] nb (.tup [.p (blP b),.p (intP e)]) []):=by
  by_cases hc:checkP c=0
  case neg =>
    refine ⟨false,checkP c,fun nb => ?_,fun nb=>(rsh_p0 hS hc rfl).fc rfl⟩
    have e:=named_inv k hc
    have:=she_p0 (c:=c) (k:=k) (f:=f) hS (by rw [e];exact hc) rfl (base:=nb)
    rw [e] at this
    exact this.fc rfl
  have hV:=(KL.valid_iff c).1 hc
  have s1:=hV.sk1
  have s2:=hV.sk2
  have d1:=hV.dn
  have r2:=hV.ra2
  by_cases hk:0≤k∧k<c.sk
  case neg =>
    refine ⟨false,1,fun nb => ?_,fun nb=>(rsh_p1 hS hc (by unfold inR;omega) (by simp [outB];omega)).fc rfl⟩
    have e:=named_out hV (k:=k) (by omega)
    have:=she_p0 (c:=c) (k:=k) (f:=f) hS (by rw [e];omega) rfl (base:=nb)
    rw [e] at this
    exact this.fc rfl
  have ob:outB k 0 (c.sk-1)=false:=by simp [outB];omega
  obtain ⟨s,rfl⟩:∃ s:Nat,k=(s:Int):=⟨k.toNat,by omega⟩
  by_cases hl:(f.length:Int)=c.ra-c.done.length
  case neg=>exact ⟨false,2,fun nb=>(shn_p0 hV hk (by unfold inR;omega) hl).fc rfl,fun nb=>(rsh_p2 hS hc (by unfold inR;omega) ob (by unfold inR;omega) hl).fc rfl⟩
  obtain ⟨q1,q2⟩:=small_with hW
  by_cases hw:checkP (withC c f)=0
  case neg =>
    refine ⟨false,checkP (withC c f),fun nb=>(shn_p1 (n0:=⟨0,0,0,[],[]⟩) hV hk (by unfold inR;omega) hl (fun b=>FC.wk ((after3_e2 c f hV hW hw).fc rfl) (by kernel_rfl)) hw).fc rfl,fun nb=>(rsh_p3 (n0:=⟨0,0,0,[],[]⟩) hS hc (by unfold inR;omega) ob (by unfold inR;omega) hl (fun b=>FC.wk ((raf_e2 c f hV hW hw).fc rfl) (by kernel_rfl)) hw).fc rfl⟩
  have hV2:=(KL.valid_iff _).1 hw
  have A1:=fun nb:Nat=>(after3_ok c f hV hV2 (base:=nb)).fc (bs:=[]) rfl
  have A2:=fun nb:Nat=>(raf_ok c f hV hV2 (base:=nb)).fc (bs:=[]) rfl
  have fl:f.length≤1000:=by omega
  have fr1:∀ r∈f,r.length≤1000:=fun r hr=>q2 r (List.mem_append_right _ hr)
  have fr2:∀ r∈f,r.length≤1000∧∀ y∈r,0≤y∧y≤60:=fun r hr=>⟨fr1 r hr,hV2.rows r (List.mem_append_right _ hr)⟩
  cases hp:f.all pB with
  | false=>exact ⟨false,8,fun nb=>(shn_p2 hV hk (by unfold inR;omega) hl A1 rfl (by unfold small;omega) fr2 hp).fc rfl,fun nb=>(rsh_p4 hS hc (by unfold inR;omega) ob (by unfold inR;omega) hl A2 rfl fl fr1 hp).fc rfl⟩
  | true=>exact ⟨rankM (withC c f) s == 1,0,fun nb=>(shn_p3 hV hk (by unfold inR;omega) hl A1 rfl (by unfold small;omega) fr2 hp hV2 hk.2 rfl).fc rfl,fun nb=>(rsh_p5 hS hc (by unfold inR;omega) ob (by unfold inR;omega) hl A2 rfl fl fr1 hp hV2 hk rfl).fc rfl⟩
theorem rsh_fur(c:Cup)(s:Nat)(f:List (List Int))(hV:KL.Valid c)(hs:(s:Int)<c.sk)(hF:FurN c f){base:Nat}:FV Tryz.prog 60 [.p (cupP c),.p (intP (s:Int)),.p (rowsP f)] base (.tup [.p (blP (rankM (withC c f) s == 1)),.p (intP 0)]) []:=by
  have s1:=hV.sk1
  have s2:=hV.sk2
  have d1:=hV.dn
  have r2:=hV.ra2
  have hl:=hF.fur.len
  have fr1:∀ r∈f,r.length≤1000:=fun r hr=>hF.fur.ok.small.rows r (List.mem_append_right _ hr)
  exact rsh_p5 hV.small ((KL.valid_iff c).2 hV) (by unfold inR;omega) (by simp [outB];omega) (by unfold inR;omega) hl (fun nb=>(raf_ok c f hV hF.fur.ok).fc rfl) rfl (by omega) fr1 (List.all_eq_true.2 fun r hr=>(pB_iff fun x hx=>(hF.fur.ok.rows r (List.mem_append_right _ hr) x hx).1).2 (hF.ns r hr)) hF.fur.ok ⟨by omega,hs⟩ rfl
def decF(c:Cup)(n:Nat):Int:=(whoM (sureM (earlyC c n)) c.sk.toNat).headD 0
def rde_S0(c:Cup)(n:Nat):St:=⟨fr 56 [(1,(.ptr 0 0)),(6,(.p (intP (n:Int))))],[some (.box 37 [(.p (intP c.sk)),(.p (intP c.ra)),(.p (intP c.be)),(.p (intsP c.pts)),(.p (rowsP c.done))])]⟩
theorem rde_p0{c:Cup}{r0:Int}(h0:KL.Small c)(h1:(checkP c)≠(0:Int))(er0:r0=(checkP c)){base:Nat}:FV Tryz.prog 74 [(.p (cupP c))] base (.tup [(.p (intP 0)),(.p (intP 0)),(.p (intP r0))]) []:=by
  subst er0
  exact FV.fin Tryz.func74 rfl (o:=[.c (.p (intP (checkP c))) [],bT]) (l:=[_,_]) (by kernel_rfl) (gc (q_neT h1) (gc (fk 1 (chk_ok c h0) rfl) gn))
theorem rde_p1{c:Cup}{n'0:Nat}(h0:KL.Small c)(h1:(checkP c)=(0:Int))(hl2:LoopOK Tryz.prog 0 zU12c3 (rde_S0 c 0) (.exit 0) (rde_S0 c n'0)){base:Nat}:FV Tryz.prog 74 [(.p (cupP c))] base (.tup [(.p (intP 0)),(.p (intP 0)),(.p (intP 6))]) []:=by
  exact FV.fin Tryz.func74 rfl (o:=[.c (.p (intP (checkP c))) [],bF,.k 4 ⟨(rng [(0,1),(2,4),(7,49)]),[0],[],[]⟩ (.exit 0) (rde_S0 c n'0)]) (l:=[_,_,_]) (by kernel_rfl) (gc hl2.code (gc (q_neF h1) (gc (fk 1 (chk_ok c h0) rfl) gn)))
theorem rde_p2{c:Cup}{n'0:Nat}{r0:Int}(h0:KL.Small c)(h1:(checkP c)=(0:Int))(hl2:LoopOK Tryz.prog 0 zU12c3 (rde_S0 c 0) .ret (setS (rde_S0 c n'0) [(2,(.p (intP (n'0:Int)))),(3,(.p (intP (decF c n'0)))),(4,(.p (intP 0)))]))(er0:r0=(decF c n'0)){base:Nat}:FV Tryz.prog 74 [(.p (cupP c))] base (.tup [(.p (intP (n'0:Int))),(.p (intP r0)),(.p (intP 0))]) []:=by
  subst er0
  exact FV.fin Tryz.func74 rfl (o:=[.c (.p (intP (checkP c))) [],bF,.k 4 ⟨(rng [(0,1),(2,4),(7,49)]),[0],[],[]⟩ .ret (setS (rde_S0 c n'0) [(2,(.p (intP (n'0:Int)))),(3,(.p (intP (decF c n'0)))),(4,(.p (intP 0)))])]) (l:=[_,_,_]) (by kernel_rfl) (gc hl2.code (gc (q_neF h1) (gc (fk 1 (chk_ok c h0) rfl) gn)))
def rde_S1(c:Cup)(n:Nat)(s:Int)(cn:Nat)(sn:Nat)(fi:Int):St:=⟨fr 56 [(1,(.ptr 0 0)),(6,(.p (intP (n:Int)))),(7,(.ptr 1 0)),(8,(.p (intP (cn:Int)))),(9,(.p (intP (sn:Int)))),(10,(.p (intP fi))),(11,(.p (intP s))),(17,(.p (intP (n:Int)))),(18,(.ptr 0 4)),(19,(.p (rowsP c.done))),(20,(.p (intP (c.done.length:Int)))),(21,(.p (blP (decide ((n:Int)≤(c.done.length:Int)))))),(24,(.p (cupP c))),(25,(.ptr 0 4)),(26,(.p (rowsP c.done))),(27,(.p (intP (n:Int)))),(28,(.p (.sl (n-0) ((c.done.map intsP).take (n*1))))),(29,(.ptr 1 4)),(30,(.ptr 0 0)),(31,(.p (intP c.sk))),(32,(.p (intP (c.sk-(1:Int)))))],[some (.box 37 [(.p (intP c.sk)),(.p (intP c.ra)),(.p (intP c.be)),(.p (intsP c.pts)),(.p (rowsP c.done))]),some (.box 37 [(.p (intP c.sk)),(.p (intP c.ra)),(.p (intP c.be)),(.p (intsP c.pts)),(.p (.sl (n-0) ((c.done.map intsP).take (n*1))))])]⟩
theorem rde_L0_p0{c:Cup}{n:Nat}{s'100:Int}{cn'101 sn'102:Nat}{fi'103:Int}(h0:(n:Int)≤(c.done.length:Int))(h1:0≤(0:Int)∧(0:Int)≤(n:Int)∧(n:Int)≤(c.done.length:Int)∧(c.done.map intsP).length=c.done.length*1)(h2:inR (c.sk-(1:Int)))(hl3:LoopOK Tryz.prog 0 zU12c0 (rde_S1 c n (c.sk-(1:Int)) 0 0 (0:Int)) (.exit 2) (rde_S1 c n s'100 cn'101 sn'102 fi'103))(h4:(0:Int)<(sn'102:Int))(h5:(cn'101:Int)=(1:Int)):CodeOK Tryz.prog 0 zU12c3 (rde_S0 c n) .ret (setS (rde_S0 c n) [(2,(.p (intP (n:Int)))),(3,(.p (intP fi'103))),(4,(.p (intP 0)))]):=by
  exact CodeOK.fin (g:=⟨(rng [(0,1),(5,1),(7,49)]),[0],[],[]⟩) (o:=[bT,.k 12 ⟨(rng [(0,1),(5,1),(12,5),(33,15)]),[0,1],[],[]⟩ (.exit 2) (rde_S1 c n s'100 cn'101 sn'102 fi'103),bT,bT,bT,bT]) (l:=[_,_,_,_,_,_,_,_]) (by kernel_rfl) (gc (q_eq h5) (gc (q_lt h4) (gc (q_lt h4) (gc (q_lt h4) (gc hl3.code (gc h2 (gc h1 (gc (q_le h0) gn))))))))
theorem rde_L0_p1{c:Cup}{n:Nat}{s'100:Int}{cn'101 sn'102:Nat}{fi'103:Int}{n':Nat}(h0:(n:Int)≤(c.done.length:Int))(h1:0≤(0:Int)∧(0:Int)≤(n:Int)∧(n:Int)≤(c.done.length:Int)∧(c.done.map intsP).length=c.done.length*1)(h2:inR (c.sk-(1:Int)))(hl3:LoopOK Tryz.prog 0 zU12c0 (rde_S1 c n (c.sk-(1:Int)) 0 0 (0:Int)) (.exit 2) (rde_S1 c n s'100 cn'101 sn'102 fi'103))(h4:(0:Int)<(sn'102:Int))(h5:(cn'101:Int)≠(1:Int))(h6:inR (((n+1):Nat):Int))(en':n'=(n+1)):CodeOK Tryz.prog 0 zU12c3 (rde_S0 c n) .normal (rde_S0 c n'):=by
  subst en'
  exact CodeOK.fin (g:=⟨(rng [(0,1),(2,4),(7,49)]),[0],[],[]⟩) (o:=[bT,.k 12 ⟨(rng [(0,1),(5,1),(12,5),(33,15)]),[0,1],[],[]⟩ (.exit 2) (rde_S1 c n s'100 cn'101 sn'102 fi'103),bT,bT,bT,bF]) (l:=[_,_,_,_,_,_,_,_,_]) (by kernel_rfl) (gc h6 (gc (q_ne h5) (gc (q_lt h4) (gc (q_lt h4) (gc (q_lt h4) (gc hl3.code (gc h2 (gc h1 (gc (q_le h0) gn)))))))))
theorem rde_L0_p2{c:Cup}{n:Nat}{s'100:Int}{cn'101 sn'102:Nat}{fi'103:Int}{n':Nat}(h0:(n:Int)≤(c.done.length:Int))(h1:0≤(0:Int)∧(0:Int)≤(n:Int)∧(n:Int)≤(c.done.length:Int)∧(c.done.map intsP).length=c.done.length*1)(h2:inR (c.sk-(1:Int)))(hl3:LoopOK Tryz.prog 0 zU12c0 (rde_S1 c n (c.sk-(1:Int)) 0 0 (0:Int)) (.exit 2) (rde_S1 c n s'100 cn'101 sn'102 fi'103))(h4:(sn'102:Int)≤(0:Int))(h5:inR (((n+1):Nat):Int))(en':n'=(n+1)):CodeOK Tryz.prog 0 zU12c3 (rde_S0 c n) .normal (rde_S0 c n'):=by
  subst en'
  exact CodeOK.fin (g:=⟨(rng [(0,1),(2,4),(7,49)]),[0],[],[]⟩) (o:=[bT,.k 12 ⟨(rng [(0,1),(5,1),(12,5),(33,15)]),[0,1],[],[]⟩ (.exit 2) (rde_S1 c n s'100 cn'101 sn'102 fi'103),bF,bF,bF]) (l:=[_,_,_,_,_,_,_,_]) (by kernel_rfl) (gc h5 (gc (q_ltF h4) (gc (q_ltF h4) (gc (q_ltF h4) (gc hl3.code (gc h2 (gc h1 (gc (q_le h0) gn))))))))
theorem rde_L0_p3{c:Cup}{n:Nat}(h0:(c.done.length:Int)<(n:Int)):CodeOK Tryz.prog 0 zU12c3 (rde_S0 c n) (.exit 0) (rde_S0 c n):=by
  exact CodeOK.fin (g:=⟨(rng [(0,1),(2,4),(7,49)]),[0],[],[]⟩) (o:=[bF]) (l:=[_]) (by kernel_rfl) (gc (q_leF h0) gn)
abbrev zU120(c:Cup)(l200:List (List Int))(s:Int):=sureM (⟨c.sk,c.ra,c.be,c.pts,l200⟩:Cup) s.toNat
theorem rde_L1_p0{c:Cup}{n:Nat}{s:Int}{cn sn:Nat}{fi:Int}{l200:List (List Int)}{s':Int}{cn' sn':Nat}(h0:(0:Int)≤s)(h1:(n-0)=l200.length)(h2:((c.done.map intsP).take (n*1))=l200.map intsP)(h3:KL.Valid (⟨c.sk,c.ra,c.be,c.pts,l200⟩:Cup))(h4:0≤s∧s<(⟨c.sk,c.ra,c.be,c.pts,l200⟩:Cup).sk)(h5:(canM (⟨c.sk,c.ra,c.be,c.pts,l200⟩:Cup) s.toNat)=true)(h6:inR (((cn+1):Nat):Int))(h7:(sureM (⟨c.sk,c.ra,c.be,c.pts,l200⟩:Cup) s.toNat)=true)(h8:inR (((sn+1):Nat):Int))(h9:inR (s-(1:Int)))(es':s'=(s-(1:Int)))(ecn':cn'=(cn+1))(esn':sn'=(sn+1)):CodeOK Tryz.prog 0 zU12c0 (rde_S1 c n s cn sn fi) .normal (rde_S1 c n s' cn' sn' s):=by
  subst es' ecn' esn'
  exact CodeOK.fin (g:=⟨(rng [(0,1),(5,1),(12,5),(33,15)]),[0,1],[],[]⟩) (o:=[bT,.c (.p (blP (canM (⟨c.sk,c.ra,c.be,c.pts,l200⟩:Cup) s.toNat))) [],bT,.c (.p (blP (zU120 c l200 s))) [],bT]) (l:=[_,_,_,FC Tryz.prog 80 [(.p (.agg [(intP c.sk),(intP c.ra),(intP c.be),(intsP c.pts),(.sl (n-0) ((c.done.map intsP).take (n*1)))])),(.p (intP s))] [] 2 (.p (blP (zU120 c l200 s))) [],_,_,FC Tryz.prog 79 [(.p (.agg [(intP c.sk),(intP c.ra),(intP c.be),(intsP c.pts),(.sl (n-0) ((c.done.map intsP).take (n*1)))])),(.p (intP s))] [] 2 (.p (blP (canM (⟨c.sk,c.ra,c.be,c.pts,l200⟩:Cup) s.toNat))) [],_]) (by kernel_rfl) (gc h9 (gc h8 (gc h7 (gc (FV.fc (by rw [show ((.sl (n-0) ((c.done.map intsP).take (n*1))):PV)=rowsP l200 from sl_cast h1 h2];exact (rsu_ok (⟨c.sk,c.ra,c.be,c.pts,l200⟩:Cup) s h3 h4)) rfl) (gc h6 (gc h5 (gc (FV.fc (by rw [show ((.sl (n-0) ((c.done.map intsP).take (n*1))):PV)=rowsP l200 from sl_cast h1 h2];exact (rca_ok (⟨c.sk,c.ra,c.be,c.pts,l200⟩:Cup) s h3 h4)) rfl) (gc (q_le h0) gn))))))))
theorem rde_L1_p1{c:Cup}{n:Nat}{s:Int}{cn sn:Nat}{fi:Int}{l200:List (List Int)}{s':Int}{cn':Nat}(h0:(0:Int)≤s)(h1:(n-0)=l200.length)(h2:((c.done.map intsP).take (n*1))=l200.map intsP)(h3:KL.Valid (⟨c.sk,c.ra,c.be,c.pts,l200⟩:Cup))(h4:0≤s∧s<(⟨c.sk,c.ra,c.be,c.pts,l200⟩:Cup).sk)(h5:(canM (⟨c.sk,c.ra,c.be,c.pts,l200⟩:Cup) s.toNat)=true)(h6:inR (((cn+1):Nat):Int))(h7:(sureM (⟨c.sk,c.ra,c.be,c.pts,l200⟩:Cup) s.toNat)=false)(h8:inR (s-(1:Int)))(es':s'=(s-(1:Int)))(ecn':cn'=(cn+1)):CodeOK Tryz.prog 0 zU12c0 (rde_S1 c n s cn sn fi) .normal (rde_S1 c n s' cn' sn fi):=by
  subst es' ecn'
  exact CodeOK.fin (g:=⟨(rng [(0,1),(5,1),(12,5),(33,15)]),[0,1],[],[]⟩) (o:=[bT,.c (.p (blP (canM (⟨c.sk,c.ra,c.be,c.pts,l200⟩:Cup) s.toNat))) [],bT,.c (.p (blP (zU120 c l200 s))) [],bF]) (l:=[_,_,FC Tryz.prog 80 [(.p (.agg [(intP c.sk),(intP c.ra),(intP c.be),(intsP c.pts),(.sl (n-0) ((c.done.map intsP).take (n*1)))])),(.p (intP s))] [] 2 (.p (blP (zU120 c l200 s))) [],_,_,FC Tryz.prog 79 [(.p (.agg [(intP c.sk),(intP c.ra),(intP c.be),(intsP c.pts),(.sl (n-0) ((c.done.map intsP).take (n*1)))])),(.p (intP s))] [] 2 (.p (blP (canM (⟨c.sk,c.ra,c.be,c.pts,l200⟩:Cup) s.toNat))) [],_]) (by kernel_rfl) (gc h8 (gc h7 (gc (FV.fc (by rw [show ((.sl (n-0) ((c.done.map intsP).take (n*1))):PV)=rowsP l200 from sl_cast h1 h2];exact (rsu_ok (⟨c.sk,c.ra,c.be,c.pts,l200⟩:Cup) s h3 h4)) rfl) (gc h6 (gc h5 (gc (FV.fc (by rw [show ((.sl (n-0) ((c.done.map intsP).take (n*1))):PV)=rowsP l200 from sl_cast h1 h2];exact (rca_ok (⟨c.sk,c.ra,c.be,c.pts,l200⟩:Cup) s h3 h4)) rfl) (gc (q_le h0) gn)))))))
theorem rde_L1_p2{c:Cup}{n:Nat}{s:Int}{cn sn:Nat}{fi:Int}{l200:List (List Int)}{s':Int}{sn':Nat}(h0:(0:Int)≤s)(h1:(n-0)=l200.length)(h2:((c.done.map intsP).take (n*1))=l200.map intsP)(h3:KL.Valid (⟨c.sk,c.ra,c.be,c.pts,l200⟩:Cup))(h4:0≤s∧s<(⟨c.sk,c.ra,c.be,c.pts,l200⟩:Cup).sk)(h5:(canM (⟨c.sk,c.ra,c.be,c.pts,l200⟩:Cup) s.toNat)=false)(h6:(sureM (⟨c.sk,c.ra,c.be,c.pts,l200⟩:Cup) s.toNat)=true)(h7:inR (((sn+1):Nat):Int))(h8:inR (s-(1:Int)))(es':s'=(s-(1:Int)))(esn':sn'=(sn+1)):CodeOK Tryz.prog 0 zU12c0 (rde_S1 c n s cn sn fi) .normal (rde_S1 c n s' cn sn' s):=by
  subst es' esn'
  exact CodeOK.fin (g:=⟨(rng [(0,1),(5,1),(12,5),(33,15)]),[0,1],[],[]⟩) (o:=[bT,.c (.p (blP (canM (⟨c.sk,c.ra,c.be,c.pts,l200⟩:Cup) s.toNat))) [],bF,.c (.p (blP (zU120 c l200 s))) [],bT]) (l:=[_,_,_,FC Tryz.prog 80 [(.p (.agg [(intP c.sk),(intP c.ra),(intP c.be),(intsP c.pts),(.sl (n-0) ((c.done.map intsP).take (n*1)))])),(.p (intP s))] [] 2 (.p (blP (zU120 c l200 s))) [],_,FC Tryz.prog 79 [(.p (.agg [(intP c.sk),(intP c.ra),(intP c.be),(intsP c.pts),(.sl (n-0) ((c.done.map intsP).take (n*1)))])),(.p (intP s))] [] 2 (.p (blP (canM (⟨c.sk,c.ra,c.be,c.pts,l200⟩:Cup) s.toNat))) [],_]) (by kernel_rfl) (gc h8 (gc h7 (gc h6 (gc (FV.fc (by rw [show ((.sl (n-0) ((c.done.map intsP).take (n*1))):PV)=rowsP l200 from sl_cast h1 h2];exact (rsu_ok (⟨c.sk,c.ra,c.be,c.pts,l200⟩:Cup) s h3 h4)) rfl) (gc h5 (gc (FV.fc (by rw [show ((.sl (n-0) ((c.done.map intsP).take (n*1))):PV)=rowsP l200 from sl_cast h1 h2];exact (rca_ok (⟨c.sk,c.ra,c.be,c.pts,l200⟩:Cup) s h3 h4)) rfl) (gc (q_le h0) gn)))))))
theorem rde_L1_p3{c:Cup}{n:Nat}{s:Int}{cn sn:Nat}{fi:Int}{l200:List (List Int)}{s':Int}(h0:(0:Int)≤s)(h1:(n-0)=l200.length)(h2:((c.done.map intsP).take (n*1))=l200.map intsP)(h3:KL.Valid (⟨c.sk,c.ra,c.be,c.pts,l200⟩:Cup))(h4:0≤s∧s<(⟨c.sk,c.ra,c.be,c.pts,l200⟩:Cup).sk)(h5:(canM (⟨c.sk,c.ra,c.be,c.pts,l200⟩:Cup) s.toNat)=false)(h6:(sureM (⟨c.sk,c.ra,c.be,c.pts,l200⟩:Cup) s.toNat)=false)(h7:inR (s-(1:Int)))(es':s'=(s-(1:Int))):CodeOK Tryz.prog 0 zU12c0 (rde_S1 c n s cn sn fi) .normal (rde_S1 c n s' cn sn fi):=by
  subst es'
  exact CodeOK.fin (g:=⟨(rng [(0,1),(5,1),(12,5),(33,15)]),[0,1],[],[]⟩) (o:=[bT,.c (.p (blP (canM (⟨c.sk,c.ra,c.be,c.pts,l200⟩:Cup) s.toNat))) [],bF,.c (.p (blP (zU120 c l200 s))) [],bF]) (l:=[_,_,FC Tryz.prog 80 [(.p (.agg [(intP c.sk),(intP c.ra),(intP c.be),(intsP c.pts),(.sl (n-0) ((c.done.map intsP).take (n*1)))])),(.p (intP s))] [] 2 (.p (blP (zU120 c l200 s))) [],_,FC Tryz.prog 79 [(.p (.agg [(intP c.sk),(intP c.ra),(intP c.be),(intsP c.pts),(.sl (n-0) ((c.done.map intsP).take (n*1)))])),(.p (intP s))] [] 2 (.p (blP (canM (⟨c.sk,c.ra,c.be,c.pts,l200⟩:Cup) s.toNat))) [],_]) (by kernel_rfl) (gc h7 (gc h6 (gc (FV.fc (by rw [show ((.sl (n-0) ((c.done.map intsP).take (n*1))):PV)=rowsP l200 from sl_cast h1 h2];exact (rsu_ok (⟨c.sk,c.ra,c.be,c.pts,l200⟩:Cup) s h3 h4)) rfl) (gc h5 (gc (FV.fc (by rw [show ((.sl (n-0) ((c.done.map intsP).take (n*1))):PV)=rowsP l200 from sl_cast h1 h2];exact (rca_ok (⟨c.sk,c.ra,c.be,c.pts,l200⟩:Cup) s h3 h4)) rfl) (gc (q_le h0) gn))))))
theorem rde_L1_p4{c:Cup}{n:Nat}{s:Int}{cn sn:Nat}{fi:Int}(h0:s<(0:Int)):CodeOK Tryz.prog 0 zU12c0 (rde_S1 c n s cn sn fi) (.exit 2) (rde_S1 c n s cn sn fi):=by
  exact CodeOK.fin (g:=⟨(rng [(0,1),(5,1),(12,5),(33,15)]),[0,1],[],[]⟩) (o:=[bF]) (l:=[_]) (by kernel_rfl) (gc (q_leF h0) gn)
def wL(p:Nat→Bool)(m j:Nat):List Nat:=(List.range' (m-j) j).filter p
theorem wL_succ(p:Nat→Bool){m j:Nat}(h:j<m):wL p m (j+1)=(if p (m-1-j)=true then [m-1-j] else [])++wL p m j:=by
  unfold wL
  rw [show m-(j+1)=m-1-j by omega,List.range'_succ,show m-1-j+1=m-j by omega,List.filter_cons]
  split <;> simp
theorem wL_all(p:Nat→Bool)(m:Nat):(wL p m m).map (fun (s:Nat)=>(s:Int))=whoM p m:=by
  unfold wL whoM
  rw [Nat.sub_self,List.range_eq_range']
abbrev hdW(p:Nat→Bool)(m j:Nat):Int:=((wL p m j).map fun (s:Nat)=>(s:Int)).headD 0
theorem rde_in(c:Cup)(hV:KL.Valid c)(n:Nat)(hn:n≤c.done.length):LoopOK Tryz.prog 0 zU12c0 (rde_S1 c n (c.sk-1) 0 0 0) (.exit 2) (rde_S1 c n (c.sk-1-(c.sk.toNat:Int)) (whoM (canM (earlyC c n)) c.sk.toNat).length (whoM (sureM (earlyC c n)) c.sk.toNat).length (decF c n)):=by
  have s1:=hV.sk1
  have s2:=hV.sk2
  have hE:KL.Valid (earlyC c n):=KL.valid_take hV n
  have l1:(n-0)=(c.done.take n).length:=by rw [List.length_take];omega
  have l2:(c.done.map intsP).take (n*1)=(c.done.take n).map intsP:=by rw [Nat.mul_one,List.map_take]
  have hlen:∀ p m j,(wL p m j).length≤j:=fun p m j=>by
    unfold wL
    exact Nat.le_trans (List.length_filter_le _ _) (by simp)
  have h:=LoopOK.count (P:=Tryz.prog) (k:=0) (b:=zU12c0) (e := .exit 2) (R:=rde_S1 c n (c.sk-1-(c.sk.toNat:Int)) (wL (canM (earlyC c n)) c.sk.toNat c.sk.toNat).length (wL (sureM (earlyC c n)) c.sk.toNat c.sk.toNat).length (hdW (sureM (earlyC c n)) c.sk.toNat c.sk.toNat)) c.sk.toNat
    (fun j=>rde_S1 c n (c.sk-1-(j:Int)) (wL (canM (earlyC c n)) c.sk.toNat j).length (wL (sureM (earlyC c n)) c.sk.toNat j).length (hdW (sureM (earlyC c n)) c.sk.toNat j))
    (fun j hj=>by
      have e:(c.sk-1-(j:Int)).toNat=c.sk.toNat-1-j:=by omega
      have ej:c.sk-1-((j+1:Nat):Int)=c.sk-1-(j:Int)-1:=by omega
      have ec:((c.sk.toNat-1-j:Nat):Int)=c.sk-1-(j:Int):=by omega
      have a1:=hlen (canM (earlyC c n)) c.sk.toNat j
      have a2:=hlen (sureM (earlyC c n)) c.sk.toNat j
      have u1:=wL_succ (canM (earlyC c n)) hj
      have u2:=wL_succ (sureM (earlyC c n)) hj
      cases c1:canM (earlyC c n) (c.sk.toNat-1-j) with
      | true =>
        rw [c1,if_pos rfl] at u1
        cases c2:sureM (earlyC c n) (c.sk.toNat-1-j) with
        | true =>
          rw [c2,if_pos rfl] at u2
          have hh:hdW (sureM (earlyC c n)) c.sk.toNat (j+1)=c.sk-1-(j:Int):=by unfold hdW;rw [u2];exact ec
          rw [hh]
          exact rde_L1_p0 (by omega) l1 l2 hE (by show 0≤_∧_<c.sk;omega) (by rw [e];exact c1) (inR_nat (by omega)) (by rw [e];exact c2) (inR_nat (by omega)) (by unfold inR;omega) ej (by rw [u1];rfl) (by rw [u2];rfl)
        | false =>
          rw [c2,if_neg (by simp),List.nil_append] at u2
          rw [show hdW (sureM (earlyC c n)) c.sk.toNat (j+1)=hdW (sureM (earlyC c n)) c.sk.toNat j by unfold hdW;rw [u2],u2]
          exact rde_L1_p1 (by omega) l1 l2 hE (by show 0≤_∧_<c.sk;omega) (by rw [e];exact c1) (inR_nat (by omega)) (by rw [e];exact c2) (by unfold inR;omega) ej (by rw [u1];rfl)
      | false =>
        rw [c1,if_neg (by simp),List.nil_append] at u1
        rw [u1]
        cases c2:sureM (earlyC c n) (c.sk.toNat-1-j) with
        | true =>
          rw [c2,if_pos rfl] at u2
          have hh:hdW (sureM (earlyC c n)) c.sk.toNat (j+1)=c.sk-1-(j:Int):=by unfold hdW;rw [u2];exact ec
          rw [hh]
          exact rde_L1_p2 (by omega) l1 l2 hE (by show 0≤_∧_<c.sk;omega) (by rw [e];exact c1) (by rw [e];exact c2) (inR_nat (by omega)) (by unfold inR;omega) ej (by rw [u2];rfl)
        | false =>
          rw [c2,if_neg (by simp),List.nil_append] at u2
          rw [show hdW (sureM (earlyC c n)) c.sk.toNat (j+1)=hdW (sureM (earlyC c n)) c.sk.toNat j by unfold hdW;rw [u2],u2]
          exact rde_L1_p3 (by omega) l1 l2 hE (by show 0≤_∧_<c.sk;omega) (by rw [e];exact c1) (by rw [e];exact c2) (by unfold inR;omega) ej)
    (rde_L1_p4 (by omega)) (by simp)
  have e0:∀ p m,wL p m 0=[]:=fun p m=>by simp [wL]
  have ew:∀ p,(wL p c.sk.toNat c.sk.toNat).length=(whoM p c.sk.toNat).length:=fun p=>by rw [← wL_all,List.length_map]
  rw [e0,e0,ew,ew,show hdW (sureM (earlyC c n)) c.sk.toNat c.sk.toNat=decF c n by unfold hdW decF;rw [wL_all],show hdW (sureM (earlyC c n)) c.sk.toNat 0=0 by unfold hdW;rw [e0];rfl,show c.sk-1-((0:Nat):Int)=c.sk-1 by omega] at h
  exact h
theorem rde_ok(c:Cup)(hV:KL.Valid c){base:Nat}:FV Tryz.prog 74 [.p (cupP c)] base (.tup [.p (intP (decM c).1),.p (intP (decM c).2.1),.p (intP (decM c).2.2)]) []:=by
  have s1:=hV.sk1
  have s2:=hV.sk2
  have d1:=hV.dn
  have r2:=hV.ra2
  have hc:=(KL.valid_iff c).2 hV
  have hd:decM c=match (List.range (c.done.length+1)).findIdx? (decP c) with
    | some n=>((n:Int),(whoM (sureM (earlyC c n)) c.sk.toNat).headD 0,0)
    | none=>(0,0,6):=rfl
  rcases LoopOK.find (P:=Tryz.prog) (k:=0) (b:=zU12c3) (fun n=>rde_S0 c n) (fun n _=>setS (rde_S0 c n) [(2,.p (intP (n:Int))),(3,.p (intP (decF c n))),(4,.p (intP 0))]) (rde_S0 c (c.done.length+1)) .ret (.exit 0) (by simp) (by simp) (decP c) (List.range (c.done.length+1))
    (fun i x hx hp=>by
      obtain ⟨rfl,hi⟩:=range_at hx
      have L:=rde_in c hV x (by omega)
      unfold decP at hp
      by_cases e1:0<(whoM (sureM (earlyC c x)) c.sk.toNat).length
      · have e2:(whoM (canM (earlyC c x)) c.sk.toNat).length≠1:=by
          rw [decide_eq_true e1,Bool.true_and] at hp
          exact of_decide_eq_false hp
        exact rde_L0_p1 (by omega) ⟨by omega,by omega,by omega,by simp⟩ (by unfold inR;omega) L (by omega) (by omega) (inR_nat (by omega)) rfl
      · exact rde_L0_p2 (by omega) ⟨by omega,by omega,by omega,by simp⟩ (by unfold inR;omega) L (by omega) (inR_nat (by omega)) rfl)
    (fun i x hx hp=>by
      obtain ⟨rfl,hi⟩:=range_at hx
      have L:=rde_in c hV x (by omega)
      unfold decP at hp
      simp only [Bool.and_eq_true,decide_eq_true_eq] at hp
      exact rde_L0_p0 (by omega) ⟨by omega,by omega,by omega,by simp⟩ (by unfold inR;omega) L (by omega) (by omega))
    (by rw [List.length_range];exact rde_L0_p3 (by omega)) with ⟨i,x,g1,g2,g3,g4⟩ | ⟨g1,_,g2⟩
  · obtain ⟨rfl,hi⟩:=range_at g1
    rw [g2] at hd
    rw [hd]
    exact rde_p2 hV.small hc g4 rfl
  · rw [g1] at hd
    rw [hd]
    exact rde_p1 hV.small hc g2
end
section
open KL
noncomputable abbrev zU13c0:Code:=sub (cd Tryz.f14) [1,1,1,1,1,1,1,1,1,1,1,1,1,1,1,1,1,1,0,1,0,0]
theorem zU13q0:((0:Int) != (0:Int))=false:=by first | decide | simp
theorem zU13q1:((1:Int) == (1:Int))=true:=by first | decide | simp
theorem zU13q2:((0:Int) == (0:Int))=true:=by first | decide | simp
theorem zU13q3:((6:Int) != (0:Int))=true:=by first | decide | simp
theorem zU13q4:((6:Int) != (6:Int))=false:=by first | decide | simp
theorem zU13q5:inR (0:Int):=by unfold inR;omega
theorem zU13q6:(decide ((0:Int) > (0:Int)))=false:=by first | decide | simp
theorem zU13q7:((6:Int) == (0:Int))=false:=by first | decide | simp
theorem ate_p0{c:Cup}{k r0:Int}(h0:KL.Small c)(h1:(namedE c k)≠(0:Int))(er0:r0=(namedE c k)){base:Nat}:FV Tryz.prog 76 [(.p (cupP c)),(.p (intP k))] base (.tup [(.p nilS),(.p (intP r0))]) []:=by
  subst er0
  exact FV.fin Tryz.func76 rfl (o:=[.c (.tup [(.p (cupP c)),(.p (intP (namedE c k)))]) [],bT]) (l:=[_,_]) (by kernel_rfl) (gc (q_neT h1) (gc (fk 1 (named_ok c h0 k) rfl) gn))
theorem show3_err(c:Cup)(hS:KL.Small c)(k:Int)(h:checkP c≠0){base:Nat}:FV Tryz.prog 75 [.p (cupP c),.p (intP k)] base (.tup [.p nilS,.p (intP (checkP c))]) []:=by
  have e:=named_inv k h
  have:=show_err c hS k (by rw [e];exact h) (base:=base)
  rwa [e] at this
theorem show3_out(c:Cup)(hV:KL.Valid c)(k:Int)(h:k<0∨c.sk≤k){base:Nat}:FV Tryz.prog 75 [.p (cupP c),.p (intP k)] base (.tup [.p nilS,.p (intP 1)]) []:=by
  have e:=named_out hV h
  have:=show_err c hV.small k (by rw [e];omega) (base:=base)
  rwa [e] at this
theorem against3_err(c:Cup)(hS:KL.Small c)(k:Int)(h:checkP c≠0){base:Nat}:FV Tryz.prog 76 [.p (cupP c),.p (intP k)] base (.tup [.p nilS,.p (intP (checkP c))]) []:=by
  have e:=named_inv k h
  have:=ate_p0 (c:=c) (k:=k) hS (by rw [e];exact h) rfl (base:=base)
  rwa [e] at this
theorem against3_out(c:Cup)(hV:KL.Valid c)(k:Int)(h:k<0∨c.sk≤k){base:Nat}:FV Tryz.prog 76 [.p (cupP c),.p (intP k)] base (.tup [.p nilS,.p (intP 1)]) []:=by
  have e:=named_out hV h
  have:=ate_p0 (c:=c) (k:=k) hV.small (by rw [e];omega) rfl (base:=base)
  rwa [e] at this
theorem most_err(c:Cup)(hS:KL.Small c)(h:checkP c≠0){base:Nat}:FV Tryz.prog 65 [.p (cupP c)] base (.tup [.p nilS,.p (intP (checkP c))]) []:=most_p0 hS h rfl
theorem rde_err(c:Cup)(hS:KL.Small c)(h:checkP c≠0){base:Nat}:FV Tryz.prog 74 [.p (cupP c)] base (.tup [.p (intP 0),.p (intP 0),.p (intP (checkP c))]) []:=rde_p0 hS h rfl
theorem fiG_p0{c:Cup}{k:Int}{f:List (List Int)}(h0:(grtB c (8:Int))=true){base:Nat}:FV Tryz.prog 14 [(.p (cupP c)),(.p (intP k)),(.p (rowsP f))] base (.p (blP true)) []:=by
  exact FV.fin Tryz.func14 rfl (o:=[.c (.p (blP (grtB c (8:Int)))) [],bT,bT,bT,bT,.c (.p (blP true)) []]) (l:=[FC Tryz.prog 19 [] [] 1 (.p (blP true)) [],_,_,_,_,_]) (by kernel_rfl) (gc (FV.fc (awake_ok _) rfl) (gc h0 (gc h0 (gc h0 (gc h0 (gc (fk 1 (grt_ok c (8:Int)) rfl) gn))))))
theorem fiH_p0{c:Cup}{k:Int}{f:List (List Int)}(h0:(grtB c (8:Int))=false)(h1:(grtB (⟨(0:Int),(0:Int),(0:Int),([]:List Int),f⟩:Cup) (12:Int))=true){base:Nat}:FV Tryz.prog 14 [(.p (cupP c)),(.p (intP k)),(.p (rowsP f))] base (.p (blP true)) []:=by
  exact FV.fin Tryz.func14 rfl (o:=[.c (.p (blP (grtB c (8:Int)))) [],bF,bF,bF,.c (.p (blP (grtB (⟨(0:Int),(0:Int),(0:Int),([]:List Int),f⟩:Cup) (12:Int)))) [],bF,bT,.c (.p (blP true)) []]) (l:=[FC Tryz.prog 19 [] [] 1 (.p (blP true)) [],_,_,_,_,_,_,_]) (by kernel_rfl) (gc (FV.fc (awake_ok _) rfl) (gc h1 (gc h0 (gc (fk 1 (FV.argwk (args:=[(.p (.agg [(intP 0),(intP 0),(intP 0),nilS,(rowsP f)])),(.p (intP 12))]) (grt_ok (⟨(0:Int),(0:Int),(0:Int),([]:List Int),f⟩:Cup) (12:Int)) (by kernel_rfl)) rfl) (gc h0 (gc h0 (gc h0 (gc (fk 1 (grt_ok c (8:Int)) rfl) gn))))))))
theorem fiE_p1{c:Cup}{k:Int}{f:List (List Int)}{b0:Bool}{e1:Int}(h0:(grtB c (8:Int))=false)(h1:(grtB (⟨(0:Int),(0:Int),(0:Int),([]:List Int),f⟩:Cup) (12:Int))=false)(h2:KL.Small c)(h3:KL.Small (⟨0,0,0,[],f⟩:Cup))(h4:checkP c≠0)(h5:(checkP c)=(checkP c))(h6:∀ nb:Nat,FC Tryz.prog 72 [(.p (cupP c)),(.p (intP k)),(.p (rowsP f))] [] nb (.tup [(.p (blP b0)),(.p (intP e1))]) [])(h7:∀ nb:Nat,FC Tryz.prog 60 [(.p (cupP c)),(.p (intP k)),(.p (rowsP f))] [] nb (.tup [(.p (blP b0)),(.p (intP e1))]) [])(h8:(b0 == b0)=true)(h9:e1=e1)(h10:(checkP c)≠(0:Int))(h11:c=c)(h12:f=f){base:Nat}:FV Tryz.prog 14 [(.p (cupP c)),(.p (intP k)),(.p (rowsP f))] base (.p (blP true)) []:=by
  exact FV.fin Tryz.func14 rfl (o:=[.c (.p (blP (grtB c (8:Int)))) [],bF,bF,bF,.c (.p (blP (grtB (⟨(0:Int),(0:Int),(0:Int),([]:List Int),f⟩:Cup) (12:Int)))) [],bF,bF,.c (.p (cupP c)) [],.c (.p (rowsP f)) [],.c (.p (intP (checkP c))) [],.c (.tup [(.p nilS),(.p (intP (checkP c)))]) [],.c (.tup [(.p nilS),(.p (intP (checkP c)))]) [],.c (.tup [(.p nilS),(.p (intP (checkP c)))]) [],bF,bF,bF,bF,bF,bF,bF,bF,bF,.c (.tup [(.p (blP b0)),(.p (intP e1))]) [],.c (.tup [(.p (blP b0)),(.p (intP e1))]) [],bF,bF,bF,bF,bF,.c (.tup [(.p (intP 0)),(.p (intP 0)),(.p (intP (checkP c)))]) [],.c (.tup [(.p (intP 0)),(.p (intP 0)),(.p (intP (checkP c)))]) [],bF,bF,bF,bF,bF,bF,bF,bF,bF,.c (.tup [(.p nilS),(.p (intP (checkP c)))]) [],.c (.tup [(.p nilS),(.p (intP (checkP c)))]) [],bT,bT,bT,bT,bT,bT,bT,bT,bT,bT,bT,bT,bT,bT,bT,bT,bT,bT,bT,bT,bT,bT,bT,bT,.c (.p (blP true)) [],bT,bT,bT,bT,.c (.p (blP true)) [],bT,bT,.c (.p (blP true)) [],bT]) (l:=[true=true,FC Tryz.prog 19 [] [] 11 (.p (blP true)) [],true=true,true=true,_,true=true,true=true,true=true,_,_,_,_,_,_,_,_,_,_,_,_,_,_,_,_,_,_,_,_,_,_,_,_,_,_,_,_,_,_,_,_,_,_,_,_,_,_,_,_,_,_,_,_,_,_,_,_,_,_,_,_,_,_,_,_,_,_,_,_,_,_,_,_,_,_,_,_,_,_,_,_]) (by kernel_rfl) (gc rfl (gc (FV.fc (awake_ok _) rfl) (gc rfl (gc rfl (gc (fk 11 (eqa3_ok f f h12 h3) rfl) (gc rfl (gc rfl (gc rfl (gc zU13q2 (gc (fk 11 (sam_ok c c h11 h2) rfl) (gc zU13q2 (gc zU13q2 (gc zU13q2 (gc (q_eq h5) (gc (q_eq h5) (gc zU13q5 (gc (q_eq h5) (gc (q_eq h5) (gc (q_eq h5) (gc zU13q5 (gc (q_eq h5) (gc (q_eq h5) (gc (q_eq h5) (gc zU13q5 (gc (q_eq h5) (gc (q_eq h5) (gc (q_eq h5) (gc zU13q5 (gc (q_eq h5) (gc (q_eq h5) (gc (q_eq h5) (gc (q_eq h5) (gc (q_eq h5) (gc (q_eq h5) (gc (q_eq h5) (gc (q_eq h5) (gc (q_eq h5) (gc (q_neT h10) (gc (fk 11 (against3_err c h2 k h4) rfl) (gc (fk 11 (show3_err c h2 k h4) rfl) (gc (q_neF h5) (gc zU13q0 (gc zU13q0 (gc zU13q0 (gc zU13q0 (gc zU13q0 (gc zU13q0 (gc zU13q0 (gc zU13q0 (gc (fk 11 (rde_err c h2 h4) rfl) (gc (fk 11 (dec_err c h2 h4) rfl) (gc (q_neF h9) (gc (q_notF h8) (gc (q_notF h8) (gc (q_notF h8) (gc (q_notF h8) (gc (h7 11) (gc (h6 11) (gc (q_neF h5) (gc (q_neF h5) (gc (q_neF h5) (gc (q_neF h5) (gc (q_neF h5) (gc (q_neF h5) (gc (q_neF h5) (gc (q_neF h5) (gc (q_neF h5) (gc (fk 11 (sureE_err c h2 h4) rfl) (gc (fk 11 (canE_err c h2 h4) rfl) (gc (fk 11 (most_err c h2 h4) rfl) (gc (fk 11 (chk_ok c h2) rfl) (gc (fk 5 (cla3_ok f h3) rfl) (gc (fk 1 (cln_ok c h2) rfl) (gc h1 (gc h0 (gc (fk 1 (FV.argwk (args:=[(.p (.agg [(intP 0),(intP 0),(intP 0),nilS,(rowsP f)])),(.p (intP 12))]) (grt_ok (⟨(0:Int),(0:Int),(0:Int),([]:List Int),f⟩:Cup) (12:Int)) (by kernel_rfl)) rfl) (gc h0 (gc h0 (gc h0 (gc (fk 1 (grt_ok c (8:Int)) rfl) gn))))))))))))))))))))))))))))))))))))))))))))))))))))))))))))))))))))))))))))))))
def fiS(c:Cup)(x1 x12 x14 x24 x25:PV)(f:List (List Int))(i:Nat)(an:Nat)(ac:List PV)(pn:Nat)(pc:List PV)(zn:Nat)(zc:List PV):St:=⟨fr 332 [(1,(.p x1)),(2,(.p (rowsP f))),(3,(.ptr 0 0)),(6,(.kb false)),(7,(.ptr 1 0)),(8,(.p (rowsP f))),(9,(.ptr 2 0)),(11,(.own 3)),(12,(.p x12)),(13,(.p (intsP (whoM (canM c) c.sk.toNat)))),(14,(.p x14)),(15,(.p (intsP (whoM (sureM c) c.sk.toNat)))),(24,(.p x24)),(25,(.p x25)),(26,(.own 4)),(27,(.own 5)),(28,(.own 6)),(177,(.p (intP c.sk))),(178,(.p (intP (i:Int))))],[some (.box 25 [(.p (intP c.sk)),(.p (intP c.ra)),(.p (intP c.be)),(.p (intsP c.pts)),(.p (rowsP c.done))]),some (.box 25 [(.p (intP c.sk)),(.p (intP c.ra)),(.p (intP c.be)),(.p (intsP c.pts)),(.p (rowsP c.done))]),some (.box 37 [(.p (intP c.sk)),(.p (intP c.ra)),(.p (intP c.be)),(.p (intsP c.pts)),(.p (rowsP c.done))]),some (.row 3 ((mostM c c.sk.toNat).length) ((mostM c c.sk.toNat).map intP)),some (.row 3 an ac),some (.row 3 pn pc),some (.row 3 zn zc)]⟩
theorem fi_L0_p0{c:Cup}{x1 x12 x14 x24 x25:PV}{f:List (List Int)}{i:Nat}{a p z:List Int}{i':Nat}{a' p' z':List Int}(h0:(i:Int)<c.sk)(h1:KL.Valid c)(h2:0≤(i:Int)∧(i:Int)<c.sk)(h3:c.done.length+(wonM c (i:Int).toNat).length≤1000)(h4:KL.Valid (withC c (wonM c (i:Int).toNat)))(h5:0≤(i:Int)∧(i:Int)<(withC c (wonM c (i:Int).toNat)).sk)(h6:[(intP (totalM (withC c (wonM c (i:Int).toNat)) (i:Int).toNat))].length=1*1∧a.length+1≤1000000)(h7:(canM c (i:Int).toNat)=true)(h8:[(intP (i:Int))].length=1*1∧p.length+1≤1000000)(h9:(sureM c (i:Int).toNat)=true)(h10:[(intP (i:Int))].length=1*1∧z.length+1≤1000000)(h11:inR (((i+1):Nat):Int))(ei':i'=(i+1))(ea'n:a'.length=(a.length+1))(ea'c:a'.map intP=((a.map intP)++[(intP (totalM (withC c (wonM c (i:Int).toNat)) (i:Int).toNat))]))(ep'n:p'.length=(p.length+1))(ep'c:p'.map intP=((p.map intP)++[(intP (i:Int))]))(ez'n:z'.length=(z.length+1))(ez'c:z'.map intP=((z.map intP)++[(intP (i:Int))])):CodeOK Tryz.prog 0 zU13c0 (fiS c x1 x12 x14 x24 x25 f i a.length (a.map intP) p.length (p.map intP) z.length (z.map intP)) .normal (fiS c x1 x12 x14 x24 x25 f i' a'.length (a'.map intP) p'.length (p'.map intP) z'.length (z'.map intP)):=by
  subst ei'
  have raw:CodeOK Tryz.prog 0 zU13c0 (fiS c x1 x12 x14 x24 x25 f i a.length (a.map intP) p.length (p.map intP) z.length (z.map intP)) .normal (fiS c x1 x12 x14 x24 x25 f (i+1) (a.length+1) ((a.map intP)++[(intP (totalM (withC c (wonM c (i:Int).toNat)) (i:Int).toNat))]) (p.length+1) ((p.map intP)++[(intP (i:Int))]) (z.length+1) ((z.map intP)++[(intP (i:Int))])):=CodeOK.fin (g:=⟨(rng [(0,1),(4,2),(10,1),(16,8),(29,1),(34,143),(179,27)]),[0,1,2,3,20,22,24],[],[]⟩) (o:=[bT,.c (.p (rowsP (wonM c (i:Int).toNat))) [],.c (.p (.agg [(intP ((withC c (wonM c (i:Int).toNat)).sk)),(intP ((withC c (wonM c (i:Int).toNat)).ra)),(intP ((withC c (wonM c (i:Int).toNat)).be)),(intsP ((withC c (wonM c (i:Int).toNat)).pts)),(rowsP ((withC c (wonM c (i:Int).toNat)).done))])) [],.c (.p (intP (totalM (withC c (wonM c (i:Int).toNat)) (i:Int).toNat))) [],.c (.p (blP (canM c (i:Int).toNat))) [],bT,.c (.p (blP (sureM c (i:Int).toNat))) [],bT]) (l:=[_,_,_,_,_,_,_,_,_,_,_,_]) (by kernel_rfl) (gc h11 (gc h10 (gc h9 (gc (fk 23 (rsu_ok c (i:Int) h1 h2) rfl) (gc h8 (gc h7 (gc (fk 21 (rca_ok c (i:Int) h1 h2) rfl) (gc h6 (gc (fk 15 (rto_ok (withC c (wonM c (i:Int).toNat)) (i:Int) h4 h5) rfl) (gc (fk 11 (rwi_ok c (wonM c (i:Int).toNat) h3) rfl) (gc (fk 7 (rwo_ok c (i:Int) h1 h2) rfl) (gc (q_lt h0) gn))))))))))))
  exact raw.cast (by rw [ea'n,ea'c,ep'n,ep'c,ez'n,ez'c])

theorem fi_L0_p1{c:Cup}{x1 x12 x14 x24 x25:PV}{f:List (List Int)}{i:Nat}{a p z:List Int}{i':Nat}{a' p':List Int}(h0:(i:Int)<c.sk)(h1:KL.Valid c)(h2:0≤(i:Int)∧(i:Int)<c.sk)(h3:c.done.length+(wonM c (i:Int).toNat).length≤1000)(h4:KL.Valid (withC c (wonM c (i:Int).toNat)))(h5:0≤(i:Int)∧(i:Int)<(withC c (wonM c (i:Int).toNat)).sk)(h6:[(intP (totalM (withC c (wonM c (i:Int).toNat)) (i:Int).toNat))].length=1*1∧a.length+1≤1000000)(h7:(canM c (i:Int).toNat)=true)(h8:[(intP (i:Int))].length=1*1∧p.length+1≤1000000)(h9:(sureM c (i:Int).toNat)=false)(h10:inR (((i+1):Nat):Int))(ei':i'=(i+1))(ea'n:a'.length=(a.length+1))(ea'c:a'.map intP=((a.map intP)++[(intP (totalM (withC c (wonM c (i:Int).toNat)) (i:Int).toNat))]))(ep'n:p'.length=(p.length+1))(ep'c:p'.map intP=((p.map intP)++[(intP (i:Int))])):CodeOK Tryz.prog 0 zU13c0 (fiS c x1 x12 x14 x24 x25 f i a.length (a.map intP) p.length (p.map intP) z.length (z.map intP)) .normal (fiS c x1 x12 x14 x24 x25 f i' a'.length (a'.map intP) p'.length (p'.map intP) z.length (z.map intP)):=by
  subst ei'
  have raw:CodeOK Tryz.prog 0 zU13c0 (fiS c x1 x12 x14 x24 x25 f i a.length (a.map intP) p.length (p.map intP) z.length (z.map intP)) .normal (fiS c x1 x12 x14 x24 x25 f (i+1) (a.length+1) ((a.map intP)++[(intP (totalM (withC c (wonM c (i:Int).toNat)) (i:Int).toNat))]) (p.length+1) ((p.map intP)++[(intP (i:Int))]) z.length (z.map intP)):=CodeOK.fin (g:=⟨(rng [(0,1),(4,2),(10,1),(16,8),(29,1),(34,143),(179,27)]),[0,1,2,3,20,22,6],[],[]⟩) (o:=[bT,.c (.p (rowsP (wonM c (i:Int).toNat))) [],.c (.p (.agg [(intP ((withC c (wonM c (i:Int).toNat)).sk)),(intP ((withC c (wonM c (i:Int).toNat)).ra)),(intP ((withC c (wonM c (i:Int).toNat)).be)),(intsP ((withC c (wonM c (i:Int).toNat)).pts)),(rowsP ((withC c (wonM c (i:Int).toNat)).done))])) [],.c (.p (intP (totalM (withC c (wonM c (i:Int).toNat)) (i:Int).toNat))) [],.c (.p (blP (canM c (i:Int).toNat))) [],bT,.c (.p (blP (sureM c (i:Int).toNat))) [],bF]) (l:=[_,_,_,_,_,_,_,_,_,_,_]) (by kernel_rfl) (gc h10 (gc h9 (gc (fk 23 (rsu_ok c (i:Int) h1 h2) rfl) (gc h8 (gc h7 (gc (fk 21 (rca_ok c (i:Int) h1 h2) rfl) (gc h6 (gc (fk 15 (rto_ok (withC c (wonM c (i:Int).toNat)) (i:Int) h4 h5) rfl) (gc (fk 11 (rwi_ok c (wonM c (i:Int).toNat) h3) rfl) (gc (fk 7 (rwo_ok c (i:Int) h1 h2) rfl) (gc (q_lt h0) gn)))))))))))
  exact raw.cast (by rw [ea'n,ea'c,ep'n,ep'c])

theorem fi_L0_p3{c:Cup}{x1 x12 x14 x24 x25:PV}{f:List (List Int)}{i:Nat}{a p z:List Int}{i':Nat}{a':List Int}(h0:(i:Int)<c.sk)(h1:KL.Valid c)(h2:0≤(i:Int)∧(i:Int)<c.sk)(h3:c.done.length+(wonM c (i:Int).toNat).length≤1000)(h4:KL.Valid (withC c (wonM c (i:Int).toNat)))(h5:0≤(i:Int)∧(i:Int)<(withC c (wonM c (i:Int).toNat)).sk)(h6:[(intP (totalM (withC c (wonM c (i:Int).toNat)) (i:Int).toNat))].length=1*1∧a.length+1≤1000000)(h7:(canM c (i:Int).toNat)=false)(h8:(sureM c (i:Int).toNat)=false)(h9:inR (((i+1):Nat):Int))(ei':i'=(i+1))(ea'n:a'.length=(a.length+1))(ea'c:a'.map intP=((a.map intP)++[(intP (totalM (withC c (wonM c (i:Int).toNat)) (i:Int).toNat))])):CodeOK Tryz.prog 0 zU13c0 (fiS c x1 x12 x14 x24 x25 f i a.length (a.map intP) p.length (p.map intP) z.length (z.map intP)) .normal (fiS c x1 x12 x14 x24 x25 f i' a'.length (a'.map intP) p.length (p.map intP) z.length (z.map intP)):=by
  subst ei'
  have raw:CodeOK Tryz.prog 0 zU13c0 (fiS c x1 x12 x14 x24 x25 f i a.length (a.map intP) p.length (p.map intP) z.length (z.map intP)) .normal (fiS c x1 x12 x14 x24 x25 f (i+1) (a.length+1) ((a.map intP)++[(intP (totalM (withC c (wonM c (i:Int).toNat)) (i:Int).toNat))]) p.length (p.map intP) z.length (z.map intP)):=CodeOK.fin (g:=⟨(rng [(0,1),(4,2),(10,1),(16,8),(29,1),(34,143),(179,27)]),[0,1,2,3,20,5,6],[],[]⟩) (o:=[bT,.c (.p (rowsP (wonM c (i:Int).toNat))) [],.c (.p (.agg [(intP ((withC c (wonM c (i:Int).toNat)).sk)),(intP ((withC c (wonM c (i:Int).toNat)).ra)),(intP ((withC c (wonM c (i:Int).toNat)).be)),(intsP ((withC c (wonM c (i:Int).toNat)).pts)),(rowsP ((withC c (wonM c (i:Int).toNat)).done))])) [],.c (.p (intP (totalM (withC c (wonM c (i:Int).toNat)) (i:Int).toNat))) [],.c (.p (blP (canM c (i:Int).toNat))) [],bF,.c (.p (blP (sureM c (i:Int).toNat))) [],bF]) (l:=[_,_,_,_,_,_,_,_,_,_]) (by kernel_rfl) (gc h9 (gc h8 (gc (fk 21 (rsu_ok c (i:Int) h1 h2) rfl) (gc h7 (gc (fk 21 (rca_ok c (i:Int) h1 h2) rfl) (gc h6 (gc (fk 15 (rto_ok (withC c (wonM c (i:Int).toNat)) (i:Int) h4 h5) rfl) (gc (fk 11 (rwi_ok c (wonM c (i:Int).toNat) h3) rfl) (gc (fk 7 (rwo_ok c (i:Int) h1 h2) rfl) (gc (q_lt h0) gn))))))))))
  exact raw.cast (by rw [ea'n,ea'c])

theorem fi_L0_p4{c:Cup}{x1 x12 x14 x24 x25:PV}{f:List (List Int)}{i:Nat}{a p z:List Int}(h0:c.sk≤(i:Int)):CodeOK Tryz.prog 0 zU13c0 (fiS c x1 x12 x14 x24 x25 f i a.length (a.map intP) p.length (p.map intP) z.length (z.map intP)) (.exit 0) (fiS c x1 x12 x14 x24 x25 f i a.length (a.map intP) p.length (p.map intP) z.length (z.map intP)):=by
  exact CodeOK.fin (g:=⟨(rng [(0,1),(4,2),(10,1),(16,8),(29,1),(34,143),(179,27)]),[0,1,2,3,4,5,6],[],[]⟩) (o:=[bF]) (l:=[_]) (by kernel_rfl) (gc (q_ltF h0) gn)
abbrev fiO_S0(c:Cup)(k:Int)(f:List (List Int))(i:Nat)(an:Nat)(ac:List PV)(pn:Nat)(pc:List PV)(zn:Nat)(zc:List PV):St:=fiS c (intP k) (intP 1) (intP 1) nilS nilS f i an ac pn pc zn zc
abbrev zU130(c:Cup):=whoM (sureM c) c.sk.toNat
abbrev zU131(c:Cup):=whoM (canM c) c.sk.toNat
theorem fiO_p4{c:Cup}{k:Int}{f:List (List Int)}{b0:Bool}{e1 n2 q3 e4:Int}{i'5:Nat}{a'6 p'7 z'8:List Int}(h0:(grtB c (8:Int))=false)(h1:(grtB (⟨(0:Int),(0:Int),(0:Int),([]:List Int),f⟩:Cup) (12:Int))=false)(h2:KL.Small c)(h3:KL.Small (⟨0,0,0,[],f⟩:Cup))(h4:KL.Valid c)(h5:∀ nb:Nat,FC Tryz.prog 72 [(.p (cupP c)),(.p (intP k)),(.p (rowsP f))] [] nb (.tup [(.p (blP b0)),(.p (intP e1))]) [])(h6:∀ nb:Nat,FC Tryz.prog 60 [(.p (cupP c)),(.p (intP k)),(.p (rowsP f))] [] nb (.tup [(.p (blP b0)),(.p (intP e1))]) [])(h7:(b0 == b0)=true)(h8:e1=e1)(h9:∀ nb:Nat,FC Tryz.prog 73 [(.p (cupP c))] [] nb (.tup [(.p (intP n2)),(.p (intP q3)),(.p (intP e4))]) [])(h10:∀ nb:Nat,FC Tryz.prog 74 [(.p (cupP c))] [] nb (.tup [(.p (intP n2)),(.p (intP q3)),(.p (intP e4))]) [])(h11:n2=n2)(h12:q3=q3)(h13:e4=e4)(h14:k<0∨c.sk≤k)(hl15:LoopOK Tryz.prog 0 zU13c0 (fiO_S0 c k f 0 0 [] 0 [] 0 []) (.exit 0) (fiO_S0 c k f i'5 a'6.length (a'6.map intP) p'7.length (p'7.map intP) z'8.length (z'8.map intP)))(h16:(mostM c c.sk.toNat).length≤100000)(h17:(decide ((mostM c c.sk.toNat)=a'6))=true)(h18:(whoM (canM c) c.sk.toNat).length≤100000)(h19:(decide ((whoM (canM c) c.sk.toNat)=p'7))=true)(h20:(whoM (sureM c) c.sk.toNat).length≤100000)(h21:(decide ((whoM (sureM c) c.sk.toNat)=z'8))=true)(h22:k<(0:Int))(h23:c=c){base:Nat}:FV Tryz.prog 14 [(.p (cupP c)),(.p (intP k)),(.p (rowsP f))] base (.p (blP true)) []:=by
  exact FV.fin Tryz.func14 rfl (o:=[.c (.p (blP (grtB c (8:Int)))) [],bF,bF,bF,.c (.p (blP (grtB (⟨(0:Int),(0:Int),(0:Int),([]:List Int),f⟩:Cup) (12:Int)))) [],bF,bF,.c (.p (cupP c)) [],.c (.p (rowsP f)) [],.c (.p (intP 0)) [],.c (.tup [(.own 11),(.p (intP 0))]) [(11,(.row 3 ((mostM c c.sk.toNat).length) ((mostM c c.sk.toNat).map intP)))],.c (.tup [(.p (intsP (zU131 c))),(.p (intP 0))]) [],.c (.tup [(.p (intsP (zU130 c))),(.p (intP 0))]) [],bF,bF,bF,bF,bF,bF,bF,bF,bF,.c (.tup [(.p (blP b0)),(.p (intP e1))]) [],.c (.tup [(.p (blP b0)),(.p (intP e1))]) [],bF,bF,bF,bF,bF,.c (.tup [(.p (intP n2)),(.p (intP q3)),(.p (intP e4))]) [],.c (.tup [(.p (intP n2)),(.p (intP q3)),(.p (intP e4))]) [],bF,bF,bF,bF,bF,bF,bF,bF,bF,.c (.tup [(.p nilS),(.p (intP 1))]) [],.c (.tup [(.p nilS),(.p (intP 1))]) [],bF,.k 6 ⟨(rng [(0,1),(4,2),(10,1),(16,8),(29,1),(34,143),(179,27)]),[0,9,10,11,12,13,14],[],[(26,3),(27,3),(28,3)]⟩ (.exit 0) (fiO_S0 c k f i'5 a'6.length (a'6.map intP) p'7.length (p'7.map intP) z'8.length (z'8.map intP)),.c (.p (blP (decide ((mostM c c.sk.toNat)=a'6)))) [],bF,bF,bF,.c (.p (blP (decide ((zU131 c)=p'7)))) [],bF,bF,bF,bF,bF,.c (.p (blP (decide ((zU130 c)=z'8)))) [],bF,bF,bF,bT,bT,bT,bT,bT,bT,bT,bT,bT,bT,bT,bT,bT,bT,bT,bT,bT,bT,.c (.p (blP true)) [],bT,bT,.c (.p (blP true)) [],bT]) (l:=[true=true,FC Tryz.prog 19 [] [] 7 (.p (blP true)) [],true=true,_,_,_,_,_,_,_,_,_,_,_,_,_,_,_,_,_,_,_,_,_,_,_,_,FC Tryz.prog 25 [(.p (intsP (zU130 c))),(.own 6)] [(6,(.row 3 z'8.length (z'8.map intP)))] 7 (.p (blP (decide ((zU130 c)=z'8)))) [],_,_,_,_,_,FC Tryz.prog 25 [(.p (intsP (zU131 c))),(.own 5)] [(5,(.row 3 p'7.length (p'7.map intP)))] 7 (.p (blP (decide ((zU131 c)=p'7)))) [],_,_,_,FC Tryz.prog 25 [(.own 3),(.own 4)] [(3,(.row 3 ((mostM c c.sk.toNat).length) ((mostM c c.sk.toNat).map intP))),(4,(.row 3 a'6.length (a'6.map intP)))] 7 (.p (blP (decide ((mostM c c.sk.toNat)=a'6)))) [],_,_,_,_,_,_,_,_,_,_,_,_,_,_,_,_,_,_,_,_,_,_,_,_,_,_,_,_,_,_,_,_,_,_,_,_,_,_,_,_,_,_,_,_]) (by kernel_rfl) (gc rfl (gc (FV.fc (awake_ok _) rfl) (gc rfl (gc zU13q2 (gc (fk 7 (sam_ok c c h23 h2) rfl) (gc zU13q2 (gc zU13q2 (gc zU13q2 (gc zU13q1 (gc zU13q1 (gc zU13q5 (gc zU13q1 (gc zU13q1 (gc zU13q1 (gc zU13q1 (gc zU13q1 (gc zU13q1 (gc zU13q1 (gc zU13q1 (gc (q_lt h22) (gc (q_lt h22) (gc (q_lt h22) (gc (q_lt h22) (gc (q_lt h22) (gc (q_notF h21) (gc (q_notF h19) (gc (q_notF h19) (gc (fv (eqi_ok (zU130 c) z'8 h20)) (gc (q_notF h19) (gc (q_notF h19) (gc (q_notF h19) (gc (q_notF h17) (gc (q_notF h17) (gc (fv (eqi_ok (zU131 c) p'7 h18)) (gc (q_notF h17) (gc (q_notF h17) (gc (q_notF h17) (gc (fv (eqi_ok (mostM c c.sk.toNat) a'6 h16)) (gc hl15.code (gc zU13q0 (gc (fk 12 (against3_out c h4 k h14) rfl) (gc (fk 12 (show3_out c h4 k h14) rfl) (gc (q_neF h13) (gc (q_neF h12) (gc (q_neF h12) (gc (q_neF h12) (gc (q_neF h12) (gc (q_neF h11) (gc (q_neF h11) (gc (q_neF h11) (gc (q_neF h11) (gc (h10 12) (gc (h9 12) (gc (q_neF h8) (gc (q_notF h7) (gc (q_notF h7) (gc (q_notF h7) (gc (q_notF h7) (gc (h6 12) (gc (h5 12) (gc zU13q0 (gc zU13q0 (gc zU13q0 (gc zU13q0 (gc zU13q0 (gc zU13q0 (gc zU13q0 (gc zU13q0 (gc zU13q0 (gc (fk 12 (sureE_ok c h4) rfl) (gc (fk 12 (canE_ok c h4) rfl) (gc (fk 11 (most_ok c h4) rfl) (gc (fk 11 (chk0 c h4) rfl) (gc (fk 5 (cla3_ok f h3) rfl) (gc (fk 1 (cln_ok c h2) rfl) (gc h1 (gc h0 (gc (fk 1 (FV.argwk (args:=[(.p (.agg [(intP 0),(intP 0),(intP 0),nilS,(rowsP f)])),(.p (intP 12))]) (grt_ok (⟨(0:Int),(0:Int),(0:Int),([]:List Int),f⟩:Cup) (12:Int)) (by kernel_rfl)) rfl) (gc h0 (gc h0 (gc h0 (gc (fk 1 (grt_ok c (8:Int)) rfl) gn))))))))))))))))))))))))))))))))))))))))))))))))))))))))))))))))))))))))))))))))))
theorem fiO_p5{c:Cup}{k:Int}{f:List (List Int)}{b0:Bool}{e1 n2 q3 e4:Int}{i'5:Nat}{a'6 p'7 z'8:List Int}(h0:(grtB c (8:Int))=false)(h1:(grtB (⟨(0:Int),(0:Int),(0:Int),([]:List Int),f⟩:Cup) (12:Int))=false)(h2:KL.Small c)(h3:KL.Small (⟨0,0,0,[],f⟩:Cup))(h4:KL.Valid c)(h5:∀ nb:Nat,FC Tryz.prog 72 [(.p (cupP c)),(.p (intP k)),(.p (rowsP f))] [] nb (.tup [(.p (blP b0)),(.p (intP e1))]) [])(h6:∀ nb:Nat,FC Tryz.prog 60 [(.p (cupP c)),(.p (intP k)),(.p (rowsP f))] [] nb (.tup [(.p (blP b0)),(.p (intP e1))]) [])(h7:(b0 == b0)=true)(h8:e1=e1)(h9:∀ nb:Nat,FC Tryz.prog 73 [(.p (cupP c))] [] nb (.tup [(.p (intP n2)),(.p (intP q3)),(.p (intP e4))]) [])(h10:∀ nb:Nat,FC Tryz.prog 74 [(.p (cupP c))] [] nb (.tup [(.p (intP n2)),(.p (intP q3)),(.p (intP e4))]) [])(h11:n2=n2)(h12:q3=q3)(h13:e4=e4)(h14:k<0∨c.sk≤k)(hl15:LoopOK Tryz.prog 0 zU13c0 (fiO_S0 c k f 0 0 [] 0 [] 0 []) (.exit 0) (fiO_S0 c k f i'5 a'6.length (a'6.map intP) p'7.length (p'7.map intP) z'8.length (z'8.map intP)))(h16:(mostM c c.sk.toNat).length≤100000)(h17:(decide ((mostM c c.sk.toNat)=a'6))=true)(h18:(whoM (canM c) c.sk.toNat).length≤100000)(h19:(decide ((whoM (canM c) c.sk.toNat)=p'7))=true)(h20:(whoM (sureM c) c.sk.toNat).length≤100000)(h21:(decide ((whoM (sureM c) c.sk.toNat)=z'8))=true)(h22:(0:Int)≤k)(h23:c.sk≤k)(h24:c=c){base:Nat}:FV Tryz.prog 14 [(.p (cupP c)),(.p (intP k)),(.p (rowsP f))] base (.p (blP true)) []:=by
  exact FV.fin Tryz.func14 rfl (o:=[.c (.p (blP (grtB c (8:Int)))) [],bF,bF,bF,.c (.p (blP (grtB (⟨(0:Int),(0:Int),(0:Int),([]:List Int),f⟩:Cup) (12:Int)))) [],bF,bF,.c (.p (cupP c)) [],.c (.p (rowsP f)) [],.c (.p (intP 0)) [],.c (.tup [(.own 11),(.p (intP 0))]) [(11,(.row 3 ((mostM c c.sk.toNat).length) ((mostM c c.sk.toNat).map intP)))],.c (.tup [(.p (intsP (zU131 c))),(.p (intP 0))]) [],.c (.tup [(.p (intsP (zU130 c))),(.p (intP 0))]) [],bF,bF,bF,bF,bF,bF,bF,bF,bF,.c (.tup [(.p (blP b0)),(.p (intP e1))]) [],.c (.tup [(.p (blP b0)),(.p (intP e1))]) [],bF,bF,bF,bF,bF,.c (.tup [(.p (intP n2)),(.p (intP q3)),(.p (intP e4))]) [],.c (.tup [(.p (intP n2)),(.p (intP q3)),(.p (intP e4))]) [],bF,bF,bF,bF,bF,bF,bF,bF,bF,.c (.tup [(.p nilS),(.p (intP 1))]) [],.c (.tup [(.p nilS),(.p (intP 1))]) [],bF,.k 6 ⟨(rng [(0,1),(4,2),(10,1),(16,8),(29,1),(34,143),(179,27)]),[0,9,10,11,12,13,14],[],[(26,3),(27,3),(28,3)]⟩ (.exit 0) (fiO_S0 c k f i'5 a'6.length (a'6.map intP) p'7.length (p'7.map intP) z'8.length (z'8.map intP)),.c (.p (blP (decide ((mostM c c.sk.toNat)=a'6)))) [],bF,bF,bF,.c (.p (blP (decide ((zU131 c)=p'7)))) [],bF,bF,bF,bF,bF,.c (.p (blP (decide ((zU130 c)=z'8)))) [],bF,bF,bF,bF,bF,bF,bF,bF,bT,bT,bT,bT,bT,bT,bT,bT,bT,bT,bT,bT,bT,bT,.c (.p (blP true)) [],bT,bT,.c (.p (blP true)) [],bT]) (l:=[true=true,FC Tryz.prog 19 [] [] 7 (.p (blP true)) [],true=true,_,_,_,_,_,_,_,_,_,_,_,_,_,_,_,_,_,_,_,_,_,_,_,_,_,FC Tryz.prog 25 [(.p (intsP (zU130 c))),(.own 6)] [(6,(.row 3 z'8.length (z'8.map intP)))] 7 (.p (blP (decide ((zU130 c)=z'8)))) [],_,_,_,_,_,FC Tryz.prog 25 [(.p (intsP (zU131 c))),(.own 5)] [(5,(.row 3 p'7.length (p'7.map intP)))] 7 (.p (blP (decide ((zU131 c)=p'7)))) [],_,_,_,FC Tryz.prog 25 [(.own 3),(.own 4)] [(3,(.row 3 ((mostM c c.sk.toNat).length) ((mostM c c.sk.toNat).map intP))),(4,(.row 3 a'6.length (a'6.map intP)))] 7 (.p (blP (decide ((mostM c c.sk.toNat)=a'6)))) [],_,_,_,_,_,_,_,_,_,_,_,_,_,_,_,_,_,_,_,_,_,_,_,_,_,_,_,_,_,_,_,_,_,_,_,_,_,_,_,_,_,_,_,_]) (by kernel_rfl) (gc rfl (gc (FV.fc (awake_ok _) rfl) (gc rfl (gc zU13q2 (gc (fk 7 (sam_ok c c h24 h2) rfl) (gc zU13q2 (gc zU13q2 (gc zU13q2 (gc zU13q1 (gc zU13q1 (gc zU13q5 (gc zU13q1 (gc zU13q1 (gc zU13q1 (gc zU13q1 (gc zU13q1 (gc zU13q1 (gc zU13q1 (gc zU13q1 (gc (q_le h23) (gc (q_ltF h22) (gc (q_ltF h22) (gc (q_ltF h22) (gc (q_ltF h22) (gc (q_ltF h22) (gc (q_notF h21) (gc (q_notF h19) (gc (q_notF h19) (gc (fv (eqi_ok (zU130 c) z'8 h20)) (gc (q_notF h19) (gc (q_notF h19) (gc (q_notF h19) (gc (q_notF h17) (gc (q_notF h17) (gc (fv (eqi_ok (zU131 c) p'7 h18)) (gc (q_notF h17) (gc (q_notF h17) (gc (q_notF h17) (gc (fv (eqi_ok (mostM c c.sk.toNat) a'6 h16)) (gc hl15.code (gc zU13q0 (gc (fk 12 (against3_out c h4 k h14) rfl) (gc (fk 12 (show3_out c h4 k h14) rfl) (gc (q_neF h13) (gc (q_neF h12) (gc (q_neF h12) (gc (q_neF h12) (gc (q_neF h12) (gc (q_neF h11) (gc (q_neF h11) (gc (q_neF h11) (gc (q_neF h11) (gc (h10 12) (gc (h9 12) (gc (q_neF h8) (gc (q_notF h7) (gc (q_notF h7) (gc (q_notF h7) (gc (q_notF h7) (gc (h6 12) (gc (h5 12) (gc zU13q0 (gc zU13q0 (gc zU13q0 (gc zU13q0 (gc zU13q0 (gc zU13q0 (gc zU13q0 (gc zU13q0 (gc zU13q0 (gc (fk 12 (sureE_ok c h4) rfl) (gc (fk 12 (canE_ok c h4) rfl) (gc (fk 11 (most_ok c h4) rfl) (gc (fk 11 (chk0 c h4) rfl) (gc (fk 5 (cla3_ok f h3) rfl) (gc (fk 1 (cln_ok c h2) rfl) (gc h1 (gc h0 (gc (fk 1 (FV.argwk (args:=[(.p (.agg [(intP 0),(intP 0),(intP 0),nilS,(rowsP f)])),(.p (intP 12))]) (grt_ok (⟨(0:Int),(0:Int),(0:Int),([]:List Int),f⟩:Cup) (12:Int)) (by kernel_rfl)) rfl) (gc h0 (gc h0 (gc h0 (gc (fk 1 (grt_ok c (8:Int)) rfl) gn)))))))))))))))))))))))))))))))))))))))))))))))))))))))))))))))))))))))))))))))))))

abbrev fiA_S0(c:Cup)(s:Nat)(f:List (List Int))(j:Nat)(i:Nat)(an:Nat)(ac:List PV)(pn:Nat)(pc:List PV)(zn:Nat)(zc:List PV):St:=fiS c (intP (s:Int)) (intP 0) (intP 0) (rowsP (wonM c s)) (rowsP (wonM c j)) f i an ac pn pc zn zc
theorem fiA_p8{c:Cup}{s:Nat}{f:List (List Int)}{j:Nat}{b0:Bool}{e1 n2 q3 e4:Int}{i'5:Nat}{a'6 p'7 z'8:List Int}(h0:(grtB c (8:Int))=false)(h1:(grtB (⟨(0:Int),(0:Int),(0:Int),([]:List Int),f⟩:Cup) (12:Int))=false)(h2:KL.Small c)(h3:KL.Small (⟨0,0,0,[],f⟩:Cup))(h4:KL.Valid c)(h5:∀ nb:Nat,FC Tryz.prog 72 [(.p (cupP c)),(.p (intP (s:Int))),(.p (rowsP f))] [] nb (.tup [(.p (blP b0)),(.p (intP e1))]) [])(h6:∀ nb:Nat,FC Tryz.prog 60 [(.p (cupP c)),(.p (intP (s:Int))),(.p (rowsP f))] [] nb (.tup [(.p (blP b0)),(.p (intP e1))]) [])(h7:(b0 == b0)=true)(h8:e1=e1)(h9:∀ nb:Nat,FC Tryz.prog 73 [(.p (cupP c))] [] nb (.tup [(.p (intP n2)),(.p (intP q3)),(.p (intP e4))]) [])(h10:∀ nb:Nat,FC Tryz.prog 74 [(.p (cupP c))] [] nb (.tup [(.p (intP n2)),(.p (intP q3)),(.p (intP e4))]) [])(h11:n2=n2)(h12:q3=q3)(h13:e4=e4)(h14:((s:Nat):Int)<c.sk)(h15:canM c s=true)(h16:∀ nb:Nat,FC Tryz.prog 76 [(.p (cupP c)),(.p (intP (s:Int)))] [] nb (.tup [(.p (rowsP (wonM c j))),(.p (intP 0))]) [])(hl17:LoopOK Tryz.prog 0 zU13c0 (fiA_S0 c s f j 0 0 [] 0 [] 0 []) (.exit 0) (fiA_S0 c s f j i'5 a'6.length (a'6.map intP) p'7.length (p'7.map intP) z'8.length (z'8.map intP)))(h18:(mostM c c.sk.toNat).length≤100000)(h19:(decide ((mostM c c.sk.toNat)=a'6))=true)(h20:(whoM (canM c) c.sk.toNat).length≤100000)(h21:(decide ((whoM (canM c) c.sk.toNat)=p'7))=true)(h22:(whoM (sureM c) c.sk.toNat).length≤100000)(h23:(decide ((whoM (sureM c) c.sk.toNat)=z'8))=true)(h24:(0:Int)≤(s:Int))(h25:(s:Int)<c.sk)(h26:0≤(s:Int)∧(s:Int)<c.sk)(h27:(((0:Int) == (0:Int)) == (canM c (s:Int).toNat))=true)(h28:(((0:Int) == (0:Int)) == (sureM c (s:Int).toNat))=false)(h29:FurN c (wonM c s))(h30:(rankM (withC c (wonM c s)) s == 1)=true)(h31:FurN c (wonM c j))(h32:(rankM (withC c (wonM c j)) s == 1)=false)(h33:c=c)(h34:f=f){base:Nat}:FV Tryz.prog 14 [(.p (cupP c)),(.p (intP (s:Int))),(.p (rowsP f))] base (.p (blP true)) []:=by
  exact FV.fin Tryz.func14 rfl (o:=[.c (.p (blP (grtB c (8:Int)))) [],bF,bF,bF,.c (.p (blP (grtB (⟨(0:Int),(0:Int),(0:Int),([]:List Int),f⟩:Cup) (12:Int)))) [],bF,bF,.c (.p (cupP c)) [],.c (.p (rowsP f)) [],.c (.p (intP 0)) [],.c (.tup [(.own 11),(.p (intP 0))]) [(11,(.row 3 ((mostM c c.sk.toNat).length) ((mostM c c.sk.toNat).map intP)))],.c (.tup [(.p (intsP (zU131 c))),(.p (intP 0))]) [],.c (.tup [(.p (intsP (zU130 c))),(.p (intP 0))]) [],bF,bF,bF,bF,bF,bF,bF,bF,bF,.c (.tup [(.p (blP b0)),(.p (intP e1))]) [],.c (.tup [(.p (blP b0)),(.p (intP e1))]) [],bF,bF,bF,bF,bF,.c (.tup [(.p (intP n2)),(.p (intP q3)),(.p (intP e4))]) [],.c (.tup [(.p (intP n2)),(.p (intP q3)),(.p (intP e4))]) [],bF,bF,bF,bF,bF,bF,bF,bF,bF,.c (.tup [(.p (rowsP (wonM c s))),(.p (intP 0))]) [],.c (.tup [(.p (rowsP (wonM c j))),(.p (intP 0))]) [],bF,.k 6 ⟨(rng [(0,1),(4,2),(10,1),(16,8),(29,1),(34,143),(179,27)]),[0,9,10,11,12,13,14],[],[(26,3),(27,3),(28,3)]⟩ (.exit 0) (fiA_S0 c s f j i'5 a'6.length (a'6.map intP) p'7.length (p'7.map intP) z'8.length (z'8.map intP)),.c (.p (blP (decide ((mostM c c.sk.toNat)=a'6)))) [],bF,bF,bF,.c (.p (blP (decide ((zU131 c)=p'7)))) [],bF,bF,bF,bF,bF,.c (.p (blP (decide ((zU130 c)=z'8)))) [],bF,bF,bF,bF,bF,bF,bF,bF,bF,.c (.p (blP (canM c (s:Int).toNat))) [],bF,bF,bF,bF,bF,.c (.p (blP (sureM c (s:Int).toNat))) [],bF,bF,bF,bF,bF,bF,bF,bF,bF,bF,bF,bF,bF,bF,bF,bF,bF,bT,.c (.tup [(.p (blP (rankM (withC c (wonM c s)) s == 1))),(.p (intP 0))]) [],bF,bF,bF,bF,bT,.c (.tup [(.p (blP (rankM (withC c (wonM c j)) s == 1))),(.p (intP 0))]) [],bF,bF,bF,.c (.p (blP true)) [],bT,bT,bT,.c (.p (blP true)) [],bT,bT,.c (.p (blP true)) [],bT]) (l:=[true=true,FC Tryz.prog 19 [] [] 7 (.p (blP true)) [],true=true,true=true,_,true=true,true=true,true=true,_,_,_,_,_,_,_,_,_,_,_,_,_,_,_,_,_,_,_,_,_,_,_,_,_,_,_,_,_,_,_,_,_,_,_,_,_,_,_,_,_,_,_,_,_,FC Tryz.prog 25 [(.p (intsP (zU130 c))),(.own 6)] [(6,(.row 3 z'8.length (z'8.map intP)))] 7 (.p (blP (decide ((zU130 c)=z'8)))) [],_,_,_,_,_,FC Tryz.prog 25 [(.p (intsP (zU131 c))),(.own 5)] [(5,(.row 3 p'7.length (p'7.map intP)))] 7 (.p (blP (decide ((zU131 c)=p'7)))) [],_,_,_,FC Tryz.prog 25 [(.own 3),(.own 4)] [(3,(.row 3 ((mostM c c.sk.toNat).length) ((mostM c c.sk.toNat).map intP))),(4,(.row 3 a'6.length (a'6.map intP)))] 7 (.p (blP (decide ((mostM c c.sk.toNat)=a'6)))) [],_,_,_,_,_,_,_,_,_,_,_,_,_,_,_,_,_,_,_,_,_,_,_,_,_,_,_,_,_,_,_,_,_,_,_,_,_,_,_,_,_,_,_,_]) (by kernel_rfl) (gc rfl (gc (FV.fc (awake_ok _) rfl) (gc rfl (gc rfl (gc (fk 7 (eqa3_ok f f h34 h3) rfl) (gc rfl (gc rfl (gc rfl (gc (fk 7 (sam_ok c c h33 h2) rfl) (gc h32 (gc zU13q0 (gc zU13q0 (gc (fk 7 (rsh_fur c s (wonM c j) h4 h14 h31) rfl) (gc zU13q2 (gc (q_notF h30) (gc zU13q0 (gc zU13q0 (gc zU13q0 (gc (fk 7 (rsh_fur c s (wonM c s) h4 h14 h29) rfl) (gc zU13q2 (gc zU13q0 (gc zU13q0 (gc zU13q0 (gc zU13q0 (gc zU13q0 (gc h28 (gc zU13q0 (gc h28 (gc zU13q0 (gc zU13q0 (gc zU13q0 (gc zU13q0 (gc h28 (gc h28 (gc h28 (gc (q_notF h27) (gc (q_notF h27) (gc (fk 7 (rsu_ok c (s:Int) h4 h26) rfl) (gc (q_notF h27) (gc (q_notF h27) (gc (q_notF h27) (gc (q_notF h27) (gc (q_notF h27) (gc (fk 7 (rca_ok c (s:Int) h4 h26) rfl) (gc (q_leF h25) (gc (q_ltF h24) (gc (q_ltF h24) (gc (q_ltF h24) (gc (q_ltF h24) (gc (q_ltF h24) (gc (q_notF h23) (gc (q_notF h21) (gc (q_notF h21) (gc (fv (eqi_ok (zU130 c) z'8 h22)) (gc (q_notF h21) (gc (q_notF h21) (gc (q_notF h21) (gc (q_notF h19) (gc (q_notF h19) (gc (fv (eqi_ok (zU131 c) p'7 h20)) (gc (q_notF h19) (gc (q_notF h19) (gc (q_notF h19) (gc (fv (eqi_ok (mostM c c.sk.toNat) a'6 h18)) (gc hl17.code (gc zU13q0 (gc (h16 12) (gc (fk 12 (show_yes c s h4 h14 h15) rfl) (gc (q_neF h13) (gc (q_neF h12) (gc (q_neF h12) (gc (q_neF h12) (gc (q_neF h12) (gc (q_neF h11) (gc (q_neF h11) (gc (q_neF h11) (gc (q_neF h11) (gc (h10 12) (gc (h9 12) (gc (q_neF h8) (gc (q_notF h7) (gc (q_notF h7) (gc (q_notF h7) (gc (q_notF h7) (gc (h6 12) (gc (h5 12) (gc zU13q0 (gc zU13q0 (gc zU13q0 (gc zU13q0 (gc zU13q0 (gc zU13q0 (gc zU13q0 (gc zU13q0 (gc zU13q0 (gc (fk 12 (sureE_ok c h4) rfl) (gc (fk 12 (canE_ok c h4) rfl) (gc (fk 11 (most_ok c h4) rfl) (gc (fk 11 (chk0 c h4) rfl) (gc (fk 5 (cla3_ok f h3) rfl) (gc (fk 1 (cln_ok c h2) rfl) (gc h1 (gc h0 (gc (fk 1 (FV.argwk (args:=[(.p (.agg [(intP 0),(intP 0),(intP 0),nilS,(rowsP f)])),(.p (intP 12))]) (grt_ok (⟨(0:Int),(0:Int),(0:Int),([]:List Int),f⟩:Cup) (12:Int)) (by kernel_rfl)) rfl) (gc h0 (gc h0 (gc h0 (gc (fk 1 (grt_ok c (8:Int)) rfl) gn))))))))))))))))))))))))))))))))))))))))))))))))))))))))))))))))))))))))))))))))))))))))))))))))))))))))))))

abbrev fiB_S0(c:Cup)(s:Nat)(f:List (List Int))(i:Nat)(an:Nat)(ac:List PV)(pn:Nat)(pc:List PV)(zn:Nat)(zc:List PV):St:=fiS c (intP (s:Int)) (intP 0) (intP 6) (rowsP (wonM c s)) nilS f i an ac pn pc zn zc
theorem fiB_p7{c:Cup}{s:Nat}{f:List (List Int)}{b0:Bool}{e1 n2 q3 e4:Int}{i'5:Nat}{a'6 p'7 z'8:List Int}(h0:(grtB c (8:Int))=false)(h1:(grtB (⟨(0:Int),(0:Int),(0:Int),([]:List Int),f⟩:Cup) (12:Int))=false)(h2:KL.Small c)(h3:KL.Small (⟨0,0,0,[],f⟩:Cup))(h4:KL.Valid c)(h5:∀ nb:Nat,FC Tryz.prog 72 [(.p (cupP c)),(.p (intP (s:Int))),(.p (rowsP f))] [] nb (.tup [(.p (blP b0)),(.p (intP e1))]) [])(h6:∀ nb:Nat,FC Tryz.prog 60 [(.p (cupP c)),(.p (intP (s:Int))),(.p (rowsP f))] [] nb (.tup [(.p (blP b0)),(.p (intP e1))]) [])(h7:(b0 == b0)=true)(h8:e1=e1)(h9:∀ nb:Nat,FC Tryz.prog 73 [(.p (cupP c))] [] nb (.tup [(.p (intP n2)),(.p (intP q3)),(.p (intP e4))]) [])(h10:∀ nb:Nat,FC Tryz.prog 74 [(.p (cupP c))] [] nb (.tup [(.p (intP n2)),(.p (intP q3)),(.p (intP e4))]) [])(h11:n2=n2)(h12:q3=q3)(h13:e4=e4)(h14:((s:Nat):Int)<c.sk)(h15:canM c s=true)(h16:∀ nb:Nat,FC Tryz.prog 76 [(.p (cupP c)),(.p (intP (s:Int)))] [] nb (.tup [(.p nilS),(.p (intP 6))]) [])(hl17:LoopOK Tryz.prog 0 zU13c0 (fiB_S0 c s f 0 0 [] 0 [] 0 []) (.exit 0) (fiB_S0 c s f i'5 a'6.length (a'6.map intP) p'7.length (p'7.map intP) z'8.length (z'8.map intP)))(h18:(mostM c c.sk.toNat).length≤100000)(h19:(decide ((mostM c c.sk.toNat)=a'6))=true)(h20:(whoM (canM c) c.sk.toNat).length≤100000)(h21:(decide ((whoM (canM c) c.sk.toNat)=p'7))=true)(h22:(whoM (sureM c) c.sk.toNat).length≤100000)(h23:(decide ((whoM (sureM c) c.sk.toNat)=z'8))=true)(h24:(0:Int)≤(s:Int))(h25:(s:Int)<c.sk)(h26:0≤(s:Int)∧(s:Int)<c.sk)(h27:(((0:Int) == (0:Int)) == (canM c (s:Int).toNat))=true)(h28:(((6:Int) == (0:Int)) == (sureM c (s:Int).toNat))=false)(h29:FurN c (wonM c s))(h30:(rankM (withC c (wonM c s)) s == 1)=true)(h31:c=c)(h32:f=f){base:Nat}:FV Tryz.prog 14 [(.p (cupP c)),(.p (intP (s:Int))),(.p (rowsP f))] base (.p (blP true)) []:=by
  exact FV.fin Tryz.func14 rfl (o:=[.c (.p (blP (grtB c (8:Int)))) [],bF,bF,bF,.c (.p (blP (grtB (⟨(0:Int),(0:Int),(0:Int),([]:List Int),f⟩:Cup) (12:Int)))) [],bF,bF,.c (.p (cupP c)) [],.c (.p (rowsP f)) [],.c (.p (intP 0)) [],.c (.tup [(.own 11),(.p (intP 0))]) [(11,(.row 3 ((mostM c c.sk.toNat).length) ((mostM c c.sk.toNat).map intP)))],.c (.tup [(.p (intsP (zU131 c))),(.p (intP 0))]) [],.c (.tup [(.p (intsP (zU130 c))),(.p (intP 0))]) [],bF,bF,bF,bF,bF,bF,bF,bF,bF,.c (.tup [(.p (blP b0)),(.p (intP e1))]) [],.c (.tup [(.p (blP b0)),(.p (intP e1))]) [],bF,bF,bF,bF,bF,.c (.tup [(.p (intP n2)),(.p (intP q3)),(.p (intP e4))]) [],.c (.tup [(.p (intP n2)),(.p (intP q3)),(.p (intP e4))]) [],bF,bF,bF,bF,bF,bF,bF,bF,bF,.c (.tup [(.p (rowsP (wonM c s))),(.p (intP 0))]) [],.c (.tup [(.p nilS),(.p (intP 6))]) [],bF,.k 6 ⟨(rng [(0,1),(4,2),(10,1),(16,8),(29,1),(34,143),(179,27)]),[0,9,10,11,12,13,14],[],[(26,3),(27,3),(28,3)]⟩ (.exit 0) (fiB_S0 c s f i'5 a'6.length (a'6.map intP) p'7.length (p'7.map intP) z'8.length (z'8.map intP)),.c (.p (blP (decide ((mostM c c.sk.toNat)=a'6)))) [],bF,bF,bF,.c (.p (blP (decide ((zU131 c)=p'7)))) [],bF,bF,bF,bF,bF,.c (.p (blP (decide ((zU130 c)=z'8)))) [],bF,bF,bF,bF,bF,bF,bF,bF,bF,.c (.p (blP (canM c (s:Int).toNat))) [],bF,bF,bF,bF,bF,.c (.p (blP (sureM c (s:Int).toNat))) [],bF,bF,bF,bF,bF,bF,bF,bF,bF,bF,bF,bF,bT,bT,bT,bF,bF,bF,bT,bF,bT,bF,bT,.c (.tup [(.p (blP (rankM (withC c (wonM c s)) s == 1))),(.p (intP 0))]) [],bF,bF,bF,bF,bF,.c (.p (blP true)) [],bT,bT,bT,.c (.p (blP true)) [],bT,bT,.c (.p (blP true)) [],bT]) (l:=[true=true,FC Tryz.prog 19 [] [] 7 (.p (blP true)) [],true=true,true=true,_,true=true,true=true,true=true,_,_,_,_,_,_,_,_,_,_,_,_,_,_,_,_,_,_,_,_,_,_,_,_,_,_,_,_,_,_,_,_,_,_,_,_,_,_,_,_,_,_,_,_,_,_,FC Tryz.prog 25 [(.p (intsP (zU130 c))),(.own 6)] [(6,(.row 3 z'8.length (z'8.map intP)))] 7 (.p (blP (decide ((zU130 c)=z'8)))) [],_,_,_,_,_,FC Tryz.prog 25 [(.p (intsP (zU131 c))),(.own 5)] [(5,(.row 3 p'7.length (p'7.map intP)))] 7 (.p (blP (decide ((zU131 c)=p'7)))) [],_,_,_,FC Tryz.prog 25 [(.own 3),(.own 4)] [(3,(.row 3 ((mostM c c.sk.toNat).length) ((mostM c c.sk.toNat).map intP))),(4,(.row 3 a'6.length (a'6.map intP)))] 7 (.p (blP (decide ((mostM c c.sk.toNat)=a'6)))) [],_,_,_,_,_,_,_,_,_,_,_,_,_,_,_,_,_,_,_,_,_,_,_,_,_,_,_,_,_,_,_,_,_,_,_,_,_,_,_,_,_,_,_,_]) (by kernel_rfl) (gc rfl (gc (FV.fc (awake_ok _) rfl) (gc rfl (gc rfl (gc (fk 7 (eqa3_ok f f h32 h3) rfl) (gc rfl (gc rfl (gc rfl (gc (fk 7 (sam_ok c c h31 h2) rfl) (gc zU13q7 (gc (q_notF h30) (gc zU13q0 (gc zU13q0 (gc zU13q0 (gc (fk 7 (rsh_fur c s (wonM c s) h4 h14 h29) rfl) (gc zU13q2 (gc zU13q6 (gc zU13q3 (gc zU13q4 (gc zU13q3 (gc zU13q4 (gc zU13q4 (gc zU13q4 (gc zU13q3 (gc zU13q3 (gc zU13q3 (gc h28 (gc zU13q0 (gc h28 (gc zU13q0 (gc zU13q0 (gc zU13q0 (gc zU13q0 (gc h28 (gc h28 (gc h28 (gc (q_notF h27) (gc (q_notF h27) (gc (fk 7 (rsu_ok c (s:Int) h4 h26) rfl) (gc (q_notF h27) (gc (q_notF h27) (gc (q_notF h27) (gc (q_notF h27) (gc (q_notF h27) (gc (fk 7 (rca_ok c (s:Int) h4 h26) rfl) (gc (q_leF h25) (gc (q_ltF h24) (gc (q_ltF h24) (gc (q_ltF h24) (gc (q_ltF h24) (gc (q_ltF h24) (gc (q_notF h23) (gc (q_notF h21) (gc (q_notF h21) (gc (fv (eqi_ok (zU130 c) z'8 h22)) (gc (q_notF h21) (gc (q_notF h21) (gc (q_notF h21) (gc (q_notF h19) (gc (q_notF h19) (gc (fv (eqi_ok (zU131 c) p'7 h20)) (gc (q_notF h19) (gc (q_notF h19) (gc (q_notF h19) (gc (fv (eqi_ok (mostM c c.sk.toNat) a'6 h18)) (gc hl17.code (gc zU13q0 (gc (h16 12) (gc (fk 12 (show_yes c s h4 h14 h15) rfl) (gc (q_neF h13) (gc (q_neF h12) (gc (q_neF h12) (gc (q_neF h12) (gc (q_neF h12) (gc (q_neF h11) (gc (q_neF h11) (gc (q_neF h11) (gc (q_neF h11) (gc (h10 12) (gc (h9 12) (gc (q_neF h8) (gc (q_notF h7) (gc (q_notF h7) (gc (q_notF h7) (gc (q_notF h7) (gc (h6 12) (gc (h5 12) (gc zU13q0 (gc zU13q0 (gc zU13q0 (gc zU13q0 (gc zU13q0 (gc zU13q0 (gc zU13q0 (gc zU13q0 (gc zU13q0 (gc (fk 12 (sureE_ok c h4) rfl) (gc (fk 12 (canE_ok c h4) rfl) (gc (fk 11 (most_ok c h4) rfl) (gc (fk 11 (chk0 c h4) rfl) (gc (fk 5 (cla3_ok f h3) rfl) (gc (fk 1 (cln_ok c h2) rfl) (gc h1 (gc h0 (gc (fk 1 (FV.argwk (args:=[(.p (.agg [(intP 0),(intP 0),(intP 0),nilS,(rowsP f)])),(.p (intP 12))]) (grt_ok (⟨(0:Int),(0:Int),(0:Int),([]:List Int),f⟩:Cup) (12:Int)) (by kernel_rfl)) rfl) (gc h0 (gc h0 (gc h0 (gc (fk 1 (grt_ok c (8:Int)) rfl) gn)))))))))))))))))))))))))))))))))))))))))))))))))))))))))))))))))))))))))))))))))))))))))))))))))))))))))))))

abbrev fiC_S0(c:Cup)(s:Nat)(f:List (List Int))(j:Nat)(i:Nat)(an:Nat)(ac:List PV)(pn:Nat)(pc:List PV)(zn:Nat)(zc:List PV):St:=fiS c (intP (s:Int)) (intP 6) (intP 0) nilS (rowsP (wonM c j)) f i an ac pn pc zn zc
theorem fiC_p7{c:Cup}{s:Nat}{f:List (List Int)}{j:Nat}{b0:Bool}{e1 n2 q3 e4:Int}{i'5:Nat}{a'6 p'7 z'8:List Int}(h0:(grtB c (8:Int))=false)(h1:(grtB (⟨(0:Int),(0:Int),(0:Int),([]:List Int),f⟩:Cup) (12:Int))=false)(h2:KL.Small c)(h3:KL.Small (⟨0,0,0,[],f⟩:Cup))(h4:KL.Valid c)(h5:∀ nb:Nat,FC Tryz.prog 72 [(.p (cupP c)),(.p (intP (s:Int))),(.p (rowsP f))] [] nb (.tup [(.p (blP b0)),(.p (intP e1))]) [])(h6:∀ nb:Nat,FC Tryz.prog 60 [(.p (cupP c)),(.p (intP (s:Int))),(.p (rowsP f))] [] nb (.tup [(.p (blP b0)),(.p (intP e1))]) [])(h7:(b0 == b0)=true)(h8:e1=e1)(h9:∀ nb:Nat,FC Tryz.prog 73 [(.p (cupP c))] [] nb (.tup [(.p (intP n2)),(.p (intP q3)),(.p (intP e4))]) [])(h10:∀ nb:Nat,FC Tryz.prog 74 [(.p (cupP c))] [] nb (.tup [(.p (intP n2)),(.p (intP q3)),(.p (intP e4))]) [])(h11:n2=n2)(h12:q3=q3)(h13:e4=e4)(h14:((s:Nat):Int)<c.sk)(h15:canM c s=false)(h16:∀ nb:Nat,FC Tryz.prog 76 [(.p (cupP c)),(.p (intP (s:Int)))] [] nb (.tup [(.p (rowsP (wonM c j))),(.p (intP 0))]) [])(hl17:LoopOK Tryz.prog 0 zU13c0 (fiC_S0 c s f j 0 0 [] 0 [] 0 []) (.exit 0) (fiC_S0 c s f j i'5 a'6.length (a'6.map intP) p'7.length (p'7.map intP) z'8.length (z'8.map intP)))(h18:(mostM c c.sk.toNat).length≤100000)(h19:(decide ((mostM c c.sk.toNat)=a'6))=true)(h20:(whoM (canM c) c.sk.toNat).length≤100000)(h21:(decide ((whoM (canM c) c.sk.toNat)=p'7))=true)(h22:(whoM (sureM c) c.sk.toNat).length≤100000)(h23:(decide ((whoM (sureM c) c.sk.toNat)=z'8))=true)(h24:(0:Int)≤(s:Int))(h25:(s:Int)<c.sk)(h26:0≤(s:Int)∧(s:Int)<c.sk)(h27:(((6:Int) == (0:Int)) == (canM c (s:Int).toNat))=true)(h28:(((0:Int) == (0:Int)) == (sureM c (s:Int).toNat))=false)(h29:FurN c (wonM c j))(h30:(rankM (withC c (wonM c j)) s == 1)=false)(h31:c=c)(h32:f=f){base:Nat}:FV Tryz.prog 14 [(.p (cupP c)),(.p (intP (s:Int))),(.p (rowsP f))] base (.p (blP true)) []:=by
  exact FV.fin Tryz.func14 rfl (o:=[.c (.p (blP (grtB c (8:Int)))) [],bF,bF,bF,.c (.p (blP (grtB (⟨(0:Int),(0:Int),(0:Int),([]:List Int),f⟩:Cup) (12:Int)))) [],bF,bF,.c (.p (cupP c)) [],.c (.p (rowsP f)) [],.c (.p (intP 0)) [],.c (.tup [(.own 11),(.p (intP 0))]) [(11,(.row 3 ((mostM c c.sk.toNat).length) ((mostM c c.sk.toNat).map intP)))],.c (.tup [(.p (intsP (zU131 c))),(.p (intP 0))]) [],.c (.tup [(.p (intsP (zU130 c))),(.p (intP 0))]) [],bF,bF,bF,bF,bF,bF,bF,bF,bF,.c (.tup [(.p (blP b0)),(.p (intP e1))]) [],.c (.tup [(.p (blP b0)),(.p (intP e1))]) [],bF,bF,bF,bF,bF,.c (.tup [(.p (intP n2)),(.p (intP q3)),(.p (intP e4))]) [],.c (.tup [(.p (intP n2)),(.p (intP q3)),(.p (intP e4))]) [],bF,bF,bF,bF,bF,bF,bF,bF,bF,.c (.tup [(.p nilS),(.p (intP 6))]) [],.c (.tup [(.p (rowsP (wonM c j))),(.p (intP 0))]) [],bF,.k 6 ⟨(rng [(0,1),(4,2),(10,1),(16,8),(29,1),(34,143),(179,27)]),[0,9,10,11,12,13,14],[],[(26,3),(27,3),(28,3)]⟩ (.exit 0) (fiC_S0 c s f j i'5 a'6.length (a'6.map intP) p'7.length (p'7.map intP) z'8.length (z'8.map intP)),.c (.p (blP (decide ((mostM c c.sk.toNat)=a'6)))) [],bF,bF,bF,.c (.p (blP (decide ((zU131 c)=p'7)))) [],bF,bF,bF,bF,bF,.c (.p (blP (decide ((zU130 c)=z'8)))) [],bF,bF,bF,bF,bF,bF,bF,bF,bF,.c (.p (blP (canM c (s:Int).toNat))) [],bF,bF,bF,bF,bF,.c (.p (blP (sureM c (s:Int).toNat))) [],bF,bF,bF,bF,bF,bT,bT,bT,bF,bF,bF,bT,bF,bF,bT,bF,bF,bF,bF,bF,bF,bF,bF,bF,bF,bF,bF,bT,.c (.tup [(.p (blP (rankM (withC c (wonM c j)) s == 1))),(.p (intP 0))]) [],bF,bF,bF,.c (.p (blP true)) [],bT,bT,bT,.c (.p (blP true)) [],bT,bT,.c (.p (blP true)) [],bT]) (l:=[true=true,FC Tryz.prog 19 [] [] 7 (.p (blP true)) [],true=true,true=true,_,true=true,true=true,true=true,_,_,_,_,_,_,_,_,_,_,_,_,_,_,_,_,_,_,_,_,_,_,_,_,_,_,_,_,_,_,_,_,_,_,_,_,_,_,_,_,_,_,_,_,_,_,_,_,_,FC Tryz.prog 25 [(.p (intsP (zU130 c))),(.own 6)] [(6,(.row 3 z'8.length (z'8.map intP)))] 7 (.p (blP (decide ((zU130 c)=z'8)))) [],_,_,_,_,_,FC Tryz.prog 25 [(.p (intsP (zU131 c))),(.own 5)] [(5,(.row 3 p'7.length (p'7.map intP)))] 7 (.p (blP (decide ((zU131 c)=p'7)))) [],_,_,_,FC Tryz.prog 25 [(.own 3),(.own 4)] [(3,(.row 3 ((mostM c c.sk.toNat).length) ((mostM c c.sk.toNat).map intP))),(4,(.row 3 a'6.length (a'6.map intP)))] 7 (.p (blP (decide ((mostM c c.sk.toNat)=a'6)))) [],_,_,_,_,_,_,_,_,_,_,_,_,_,_,_,_,_,_,_,_,_,_,_,_,_,_,_,_,_,_,_,_,_,_,_,_,_,_,_,_,_,_,_,_]) (by kernel_rfl) (gc rfl (gc (FV.fc (awake_ok _) rfl) (gc rfl (gc rfl (gc (fk 7 (eqa3_ok f f h32 h3) rfl) (gc rfl (gc rfl (gc rfl (gc (fk 7 (sam_ok c c h31 h2) rfl) (gc h30 (gc zU13q0 (gc zU13q0 (gc (fk 7 (rsh_fur c s (wonM c j) h4 h14 h29) rfl) (gc zU13q2 (gc zU13q7 (gc zU13q6 (gc zU13q0 (gc zU13q6 (gc zU13q0 (gc zU13q0 (gc zU13q0 (gc zU13q0 (gc zU13q6 (gc zU13q6 (gc zU13q6 (gc h28 (gc zU13q3 (gc h28 (gc zU13q4 (gc zU13q3 (gc zU13q4 (gc zU13q4 (gc zU13q4 (gc zU13q3 (gc zU13q3 (gc zU13q3 (gc h28 (gc h28 (gc h28 (gc (q_notF h27) (gc (q_notF h27) (gc (fk 7 (rsu_ok c (s:Int) h4 h26) rfl) (gc (q_notF h27) (gc (q_notF h27) (gc (q_notF h27) (gc (q_notF h27) (gc (q_notF h27) (gc (fk 7 (rca_ok c (s:Int) h4 h26) rfl) (gc (q_leF h25) (gc (q_ltF h24) (gc (q_ltF h24) (gc (q_ltF h24) (gc (q_ltF h24) (gc (q_ltF h24) (gc (q_notF h23) (gc (q_notF h21) (gc (q_notF h21) (gc (fv (eqi_ok (zU130 c) z'8 h22)) (gc (q_notF h21) (gc (q_notF h21) (gc (q_notF h21) (gc (q_notF h19) (gc (q_notF h19) (gc (fv (eqi_ok (zU131 c) p'7 h20)) (gc (q_notF h19) (gc (q_notF h19) (gc (q_notF h19) (gc (fv (eqi_ok (mostM c c.sk.toNat) a'6 h18)) (gc hl17.code (gc zU13q0 (gc (h16 12) (gc (fk 12 (show_no c s h4 h14 h15) rfl) (gc (q_neF h13) (gc (q_neF h12) (gc (q_neF h12) (gc (q_neF h12) (gc (q_neF h12) (gc (q_neF h11) (gc (q_neF h11) (gc (q_neF h11) (gc (q_neF h11) (gc (h10 12) (gc (h9 12) (gc (q_neF h8) (gc (q_notF h7) (gc (q_notF h7) (gc (q_notF h7) (gc (q_notF h7) (gc (h6 12) (gc (h5 12) (gc zU13q0 (gc zU13q0 (gc zU13q0 (gc zU13q0 (gc zU13q0 (gc zU13q0 (gc zU13q0 (gc zU13q0 (gc zU13q0 (gc (fk 12 (sureE_ok c h4) rfl) (gc (fk 12 (canE_ok c h4) rfl) (gc (fk 11 (most_ok c h4) rfl) (gc (fk 11 (chk0 c h4) rfl) (gc (fk 5 (cla3_ok f h3) rfl) (gc (fk 1 (cln_ok c h2) rfl) (gc h1 (gc h0 (gc (fk 1 (FV.argwk (args:=[(.p (.agg [(intP 0),(intP 0),(intP 0),nilS,(rowsP f)])),(.p (intP 12))]) (grt_ok (⟨(0:Int),(0:Int),(0:Int),([]:List Int),f⟩:Cup) (12:Int)) (by kernel_rfl)) rfl) (gc h0 (gc h0 (gc h0 (gc (fk 1 (grt_ok c (8:Int)) rfl) gn))))))))))))))))))))))))))))))))))))))))))))))))))))))))))))))))))))))))))))))))))))))))))))))))))))))))))))))))

theorem most_succ(c:Cup)(n:Nat):mostM c (n+1)=mostM c n++[totalM (withC c (wonM c n)) n]:=by
  unfold mostM
  rw [List.range_succ,List.map_append];rfl
theorem who_succ(p:Nat→Bool)(n:Nat):whoM p (n+1)=whoM p n++(if p n=true then [(n:Int)] else []):=by
  unfold whoM
  rw [List.range_succ,List.filter_append,List.map_append]
  congr 1
  by_cases h:p n=true <;> simp [h]
theorem who_len(p:Nat→Bool)(n:Nat):(whoM p n).length≤n:=by
  unfold whoM
  rw [List.length_map]
  exact Nat.le_trans (List.length_filter_le _ _) (by simp)
theorem fi_loop(c:Cup)(hV:KL.Valid c)(x1 x12 x14 x24 x25:PV)(f:List (List Int)):LoopOK Tryz.prog 0 zU13c0 (fiS c x1 x12 x14 x24 x25 f 0 0 [] 0 [] 0 []) (.exit 0) (fiS c x1 x12 x14 x24 x25 f c.sk.toNat (mostM c c.sk.toNat).length ((mostM c c.sk.toNat).map intP) (whoM (canM c) c.sk.toNat).length ((whoM (canM c) c.sk.toNat).map intP) (whoM (sureM c) c.sk.toNat).length ((whoM (sureM c) c.sk.toNat).map intP)):=by
  have s1:=hV.sk1
  have s2:=hV.sk2
  have h:=LoopOK.count (P:=Tryz.prog) (k:=0) (b:=zU13c0) (e := .exit 0) (R:=fiS c x1 x12 x14 x24 x25 f c.sk.toNat (mostM c c.sk.toNat).length ((mostM c c.sk.toNat).map intP) (whoM (canM c) c.sk.toNat).length ((whoM (canM c) c.sk.toNat).map intP) (whoM (sureM c) c.sk.toNat).length ((whoM (sureM c) c.sk.toNat).map intP)) c.sk.toNat
    (fun i=>fiS c x1 x12 x14 x24 x25 f i (mostM c i).length ((mostM c i).map intP) (whoM (canM c) i).length ((whoM (canM c) i).map intP) (whoM (sureM c) i).length ((whoM (sureM c) i).map intP))
    (fun i hi=>by
      have hs:((i:Nat):Int)<c.sk:=by omega
      have b:0≤(i:Int)∧(i:Int)<c.sk:=⟨by omega,hs⟩
      have l1:=who_len (canM c) i
      have l2:=who_len (sureM c) i
      have u1:=who_succ (canM c) i
      have u2:=who_succ (sureM c) i
      have lm:(mostM c i).length=i:=by simp [mostM]
      have e1:(mostM c (i+1)).length=(mostM c i).length+1:=by rw [most_succ];simp
      have e2:(mostM c (i+1)).map intP=(mostM c i).map intP++[intP (totalM (withC c (wonM c i)) i)]:=by rw [most_succ];simp
      cases c1:canM c i with
      | true =>
        rw [if_pos c1] at u1
        have e3:(whoM (canM c) (i+1)).length=(whoM (canM c) i).length+1:=by rw [u1];simp
        have e4:(whoM (canM c) (i+1)).map intP=(whoM (canM c) i).map intP++[intP (i:Int)]:=by rw [u1];simp
        cases c2:sureM c i with
        | true =>
          rw [if_pos c2] at u2
          exact fi_L0_p0 hs hV b (won_len hV _) (KL.valid_won hV hs) b ⟨rfl,by omega⟩ c1 ⟨rfl,by omega⟩ c2 ⟨rfl,by omega⟩ (inR_nat (by omega)) rfl e1 e2 e3 e4 (by rw [u2];simp) (by rw [u2];simp)
        | false =>
          rw [if_neg (by rw [c2];simp),List.append_nil] at u2
          rw [u2]
          exact fi_L0_p1 hs hV b (won_len hV _) (KL.valid_won hV hs) b ⟨rfl,by omega⟩ c1 ⟨rfl,by omega⟩ c2 (inR_nat (by omega)) rfl e1 e2 e3 e4
      | false =>
        rw [if_neg (by rw [c1];simp),List.append_nil] at u1
        rw [u1]
        cases c2:sureM c i with
        | true=>have:=sure_can hV hs c2;rw [c1] at this;cases this
        | false =>
          rw [if_neg (by rw [c2];simp),List.append_nil] at u2
          rw [u2]
          exact fi_L0_p3 hs hV b (won_len hV _) (KL.valid_won hV hs) b ⟨rfl,by omega⟩ c1 c2 (inR_nat (by omega)) rfl e1 e2)
    (fi_L0_p4 (by omega)) (by simp)
  exact h
theorem firsts_law(c:Cup)(k:Int)(f:List (List Int)){base:Nat}:FV Tryz.prog 14 [.p (cupP c),.p (intP k),.p (rowsP f)] base (.p (blP true)) []:=by
  cases g:grtB c 8 with
  | true=>exact fiG_p0 g
  | false =>
  cases g2:grtB ⟨0,0,0,[],f⟩ 12 with
  | true=>exact fiH_p0 g g2
  | false =>
    obtain ⟨hS,d1,d2,d3,_⟩:=grt_small g
    obtain ⟨hF,_,d4,d5,_⟩:=grt_small g2
    have hF':KL.Small (⟨0,0,0,[],f⟩:Cup):=hF
    have d4':f.length≤25:=d4
    have hW:KL.Small (withC c f):=⟨hS.pts,by rw [show (withC c f).done=c.done++f from rfl,List.length_append];omega,fun r hr=>by
      rcases List.mem_append.1 hr with hr | hr
      · exact hS.rows r hr
      · exact hF.rows r hr⟩
    obtain ⟨b,e,A1,A2⟩:=shows_both c k f hS hW
    by_cases hc:checkP c=0
    case neg=>exact fiE_p1 g g2 hS hF' hc rfl A1 A2 (by simp) rfl hc rfl rfl
    have hV:=(KL.valid_iff c).1 hc
    have s1:=hV.sk1
    have s2:=hV.sk2
    have L:=fi_loop c hV
    have D1:=fun nb:Nat=>(dec_ok c hV (base:=nb)).fc (bs:=[]) rfl
    have D2:=fun nb:Nat=>(rde_ok c hV (base:=nb)).fc (bs:=[]) rfl
    have m1:(mostM c c.sk.toNat).length≤100000:=by simp [mostM];omega
    have m2:(whoM (canM c) c.sk.toNat).length≤100000:=by have:=who_len (canM c) c.sk.toNat;omega
    have m3:(whoM (sureM c) c.sk.toNat).length≤100000:=by have:=who_len (sureM c) c.sk.toNat;omega
    by_cases hk:0≤k∧k<c.sk
    case neg =>
      by_cases h0:k<0
      · exact fiO_p4 g g2 hS hF' hV A1 A2 (by simp) rfl D1 D2 rfl rfl rfl (by omega) (L _ _ _ _ _ f) m1 (decide_eq_true rfl) m2 (decide_eq_true rfl) m3 (decide_eq_true rfl) h0 rfl
      · exact fiO_p5 g g2 hS hF' hV A1 A2 (by simp) rfl D1 D2 rfl rfl rfl (by omega) (L _ _ _ _ _ f) m1 (decide_eq_true rfl) m2 (decide_eq_true rfl) m3 (decide_eq_true rfl) (by omega) (by omega) rfl
    obtain ⟨s,rfl⟩:∃ s:Nat,k=(s:Int):=⟨k.toNat,by omega⟩
    have hs:=hk.2
    cases ec:canM c s with
    | true =>
      have hw:=furN_won hV hs
      have r1:(rankM (withC c (wonM c s)) s == 1)=true:=by rw [canM_iff.1 ec];rfl
      have q1:(((0:Int) == (0:Int)) == canM c (s:Int).toNat)=true:=by rw [Int.toNat_natCast,ec];rfl
      cases es:sureM c s with
      | false =>
        obtain ⟨j,j1,j2,j3⟩:=against_yes c s hV hs es
        have hj:=furN_won hV (show (j:Int)<c.sk by omega)
        have hr:(rankM (withC c (wonM c j)) s == 1)=false:=by have:=(passes_iff.1 j2).2;exact beq_eq_false_iff_ne.2 (by omega)
        exact fiA_p8 g g2 hS hF' hV A1 A2 (by simp) rfl D1 D2 rfl rfl rfl hs ec j3 (L _ _ _ _ _ f) m1 (decide_eq_true rfl) m2 (decide_eq_true rfl) m3 (decide_eq_true rfl) hk.1 hs hk q1 (by rw [Int.toNat_natCast,es];rfl) hw r1 hj hr rfl rfl
      | true =>
        exact fiB_p7 g g2 hS hF' hV A1 A2 (by simp) rfl D1 D2 rfl rfl rfl hs ec (against_no c s hV hs es) (L _ _ _ _ _ f) m1 (decide_eq_true rfl) m2 (decide_eq_true rfl) m3 (decide_eq_true rfl) hk.1 hs hk q1 (by rw [Int.toNat_natCast,es];rfl) hw r1 rfl rfl
    | false =>
      have es:sureM c s=false:=by
        cases e2:sureM c s with
        | false=>rfl
        | true=>rw [sure_can hV hs e2] at ec;cases ec
      obtain ⟨j,j1,j2,j3⟩:=against_yes c s hV hs es
      have hj:=furN_won hV (show (j:Int)<c.sk by omega)
      have hr:(rankM (withC c (wonM c j)) s == 1)=false:=by have:=(passes_iff.1 j2).2;exact beq_eq_false_iff_ne.2 (by omega)
      exact fiC_p7 g g2 hS hF' hV A1 A2 (by simp) rfl D1 D2 rfl rfl rfl hs ec j3 (L _ _ _ _ _ f) m1 (decide_eq_true rfl) m2 (decide_eq_true rfl) m3 (decide_eq_true rfl) hk.1 hs hk (by rw [Int.toNat_natCast,ec];rfl) (by rw [Int.toNat_natCast,es];rfl) hj hr rfl rfl
end
end KV
end Go.Proofs
