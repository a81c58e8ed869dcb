/- Parts of the proof of JShared: laws of walks, contracts of functions, plain models. No condition. -/
import Derived.Test.YtgehgmllhmfbpaaGreatPJSharedE
set_option linter.unusedVariables false
set_option linter.unusedSimpArgs false
section
namespace Go.Proofs
open KL Go.RowKit
namespace KV
set_option maxRecDepth 100000
set_option linter.unusedVariables false

theorem LoopOK.count {P : Program} {k : Nat} {b : Code} {e : Ex} {R : St} (N : Nat) (S : Nat → St) (hs : ∀ i, i < N → CodeOK P k b (S i) .normal (S (i + 1))) (hx : CodeOK P k b (S N) e R) (he : e ≠ .normal) : LoopOK P k b (S 0) e R := by
  have key : ∀ d i, i + d = N → LoopOK P k b (S i) e R := by
    intro d
    induction d with
    | zero => intro i hi; obtain rfl : i = N := by omega
              exact .exit hx he
    | succ d ih => intro i hi; exact .step (hs i (by omega)) (ih (i + 1) (by omega))
  exact key N 0 (by omega)

theorem fl_setf {k i f : Nat} {L : List (List Int)} {x : List Int} {y : Int} (h : uni k L) (hx : L[i]? = some x) (hf : f < k) : (L.flatten.map intP).set (i * k + f) (intP y) = ((L.set i (x.set f y)).flatten.map intP) := by
  have hi := (List.getElem?_eq_some_iff.1 hx).1
  have hxl : x.length = k := h x (List.mem_of_getElem? hx)
  have e : L = L.take i ++ x :: L.drop (i + 1) := by
    conv => lhs; rw [← List.take_append_drop i L]
    congr 1
    rw [List.drop_eq_getElem_cons hi]
    congr 1
    exact (List.getElem?_eq_some_iff.1 hx).2
  have hA : (L.take i).flatten.length = i * k := by
    rw [fl_len (fun y hy => h y (List.mem_of_mem_take hy)), List.length_take]
    congr 1; omega
  have hset : L.set i (x.set f y) = L.take i ++ (x.set f y) :: L.drop (i + 1) := by
    rw [List.set_eq_take_append_cons_drop, if_pos hi]
  rw [hset, ← List.map_set]
  congr 1
  conv => lhs; rw [e]
  rw [List.flatten_append, List.flatten_cons, List.flatten_append, List.flatten_cons]
  rw [List.set_append_right _ _ (by omega), hA, Nat.add_sub_cancel_left, List.set_append_left _ _ (by omega)]

def rkOf (P : List Int) (v : Int) (j : Nat) : Int := 1 + (((P.take j).filter fun q => decide (v < q)).length : Int)
theorem rkOf_zero (P : List Int) (v : Int) : rkOf P v 0 = 1 := by simp [rkOf]
theorem rkOf_succ {P : List Int} {v q : Int} {j : Nat} (h : P[j]? = some q) : rkOf P v (j + 1) = if v < q then rkOf P v j + 1 else rkOf P v j := by
  unfold rkOf
  rw [List.take_add_one, h, List.filter_append, List.length_append]
  split <;> rename_i h2 <;> simp [h2] <;> omega
theorem rkOf_bd (P : List Int) (v : Int) (j : Nat) : 1 ≤ rkOf P v j ∧ rkOf P v j ≤ 1 + j := by
  unfold rkOf
  have := Nat.le_trans (List.length_filter_le (fun q => decide (v < q)) (P.take j)) (List.length_take_le j P)
  omega
def qtOf (qs : List Int) (rk : Int) : Int := if rk ≤ qs.length then qs.getD (rk - 1).toNat 0 else 0
abbrev pts3 (o : List (List Int)) : List Int := o.map fun x => x.getD 2 0
def finR (qs P : List Int) (x : List Int) : List Int := [x.getD 0 0, rkOf P (x.getD 2 0) P.length, x.getD 2 0, qtOf qs (rkOf P (x.getD 2 0) P.length)]
def natL (qs : List Int) (o : List (List Int)) : List (List Int) := isort (ltK 1) (o.map (finR qs (pts3 o)))
def midL (qs : List Int) (o : List (List Int)) (i : Nat) : List (List Int) := (o.take i).map (finR qs (pts3 o)) ++ o.drop i
def Pt (P : List Int) (r : List (List Int)) : Prop := r.length = P.length ∧ ∀ (j : Nat) (q : Int), P[j]? = some q → ∃ a b d, r[j]? = some [a, b, q, d]
theorem Pt.uni {P : List Int} {r : List (List Int)} (h : Pt P r) : uni 4 r := fun x hx => by
  obtain ⟨j, hj, rfl⟩ := List.getElem_of_mem hx
  obtain ⟨a, b, d, hr⟩ := h.2 j (P[j]'(by rw [← h.1]; exact hj)) (List.getElem?_eq_getElem _)
  rw [List.getElem?_eq_getElem hj] at hr
  rw [Option.some.inj hr]; rfl
theorem Pt.set {P : List Int} {r : List (List Int)} {i : Nat} {a b q d : Int} (h : Pt P r) (hq : P[i]? = some q) : Pt P (r.set i [a, b, q, d]) := by
  refine ⟨by rw [List.length_set]; exact h.1, fun j q' hj => ?_⟩
  have hjl := (List.getElem?_eq_some_iff.1 hj).1
  have hrl := h.1
  rw [List.getElem?_set]
  by_cases e : i = j
  · subst e
    rw [hq] at hj; cases hj
    rw [if_pos rfl, if_pos (by omega)]
    exact ⟨a, b, d, rfl⟩
  · rw [if_neg e]; exact h.2 j q' hj
def Base (o : List (List Int)) : Prop := ∀ x ∈ o, ∃ g s, x = [g, 1, s, 0]
theorem base_outL (ns ts : List Int) (mo : Int) (N n : Nat) : Base (outL ns ts mo N n) := fun x hx => by
  unfold outL at hx
  obtain ⟨g, hg, hx⟩ := List.mem_flatMap.1 hx
  unfold outG at hx
  split at hx
  · simp at hx
  · simp at hx; exact ⟨_, _, hx⟩
theorem mid_at {qs : List Int} {o : List (List Int)} {i j : Nat} (hi : i ≤ o.length) : (midL qs o i)[j]? = if j < i then (o[j]?).map (finR qs (pts3 o)) else o[j]? := by
  unfold midL
  by_cases h : j < i
  · rw [if_pos h, List.getElem?_append_left (by rw [List.length_map, List.length_take]; omega), List.getElem?_map, List.getElem?_take, if_pos h]
  · rw [if_neg h, List.getElem?_append_right (by rw [List.length_map, List.length_take]; omega), List.length_map, List.length_take, List.getElem?_drop]
    congr 1; omega
theorem mid_len {qs : List Int} {o : List (List Int)} {i : Nat} (hi : i ≤ o.length) : (midL qs o i).length = o.length := by
  unfold midL; rw [List.length_append, List.length_map, List.length_take, List.length_drop]; omega
theorem mid_pt {qs : List Int} {o : List (List Int)} {i : Nat} (hb : Base o) (hi : i ≤ o.length) : Pt (pts3 o) (midL qs o i) := by
  refine ⟨by rw [mid_len hi, List.length_map], fun j q hj => ?_⟩
  rw [mid_at hi]
  rw [List.getElem?_map] at hj
  cases ho : o[j]? with
  | none => rw [ho] at hj; cases hj
  | some x =>
    rw [ho] at hj
    obtain ⟨g, s, rfl⟩ := hb x (List.mem_of_getElem? ho)
    simp at hj
    subst hj
    split
    · exact ⟨_, _, _, rfl⟩
    · exact ⟨_, _, _, rfl⟩
theorem mid_zero (qs : List Int) (o : List (List Int)) : midL qs o 0 = o := by simp [midL]
theorem mid_end (qs : List Int) (o : List (List Int)) : midL qs o o.length = o.map (finR qs (pts3 o)) := by simp [midL]
theorem mid_succ {qs : List Int} {o : List (List Int)} {i : Nat} {x : List Int} (h : o[i]? = some x) : midL qs o (i + 1) = (midL qs o i).set i (finR qs (pts3 o) x) := by
  have hi := (List.getElem?_eq_some_iff.1 h).1
  apply List.ext_getElem?
  intro j
  rw [mid_at (by omega), List.getElem?_set, mid_len (by omega), mid_at (by omega)]
  by_cases e : i = j
  · subst e
    rw [if_pos (by omega), if_pos rfl, if_pos hi, h]; rfl
  · rw [if_neg e]
    by_cases e2 : j < i
    · rw [if_pos (by omega), if_pos e2]
    · rw [if_neg (by omega), if_neg e2]

section
variable {qs : List Int} {o : List (List Int)}
theorem nat_inner (hb : Base o) (ho : o.length ≤ 31) {i : Nat} {g s : Int} (hx : o[i]? = some [g, 1, s, 0]) :
    LoopOK Tryz.prog 0 (sub (cd Tryz.f22) [1, 1, 1, 1, 1, 1, 1, 0, 1, 0, 0, 1, 1, 0, 0, 1, 0, 1, 0, 0]) (nat_S3 qs o i (midL qs o i) 0 (midL qs o i).length ((midL qs o i).flatten.map intP)) (.exit 7)
      (nat_S3 qs o i (midL qs o i) o.length ((midL qs o i).set i [g, rkOf (pts3 o) s o.length, s, 0]).length (((midL qs o i).set i [g, rkOf (pts3 o) s o.length, s, 0]).flatten.map intP)) := by
  have hi := (List.getElem?_eq_some_iff.1 hx).1
  have hml : (midL qs o i).length = o.length := mid_len (by omega)
  have hpt : Pt (pts3 o) (midL qs o i) := mid_pt hb (by omega)
  have hpi : (pts3 o)[i]? = some s := by rw [List.getElem?_map, hx]; rfl
  have hmi : (midL qs o i)[i]? = some [g, 1, s, 0] := by rw [mid_at (by omega), if_neg (by omega), hx]
  have e0 : (midL qs o i).set i [g, rkOf (pts3 o) s 0, s, 0] = midL qs o i := by
    rw [rkOf_zero]
    obtain ⟨h1, h2⟩ := List.getElem?_eq_some_iff.1 hmi
    rw [← h2]; exact List.set_getElem_self h1
  have := LoopOK.count (P := Tryz.prog) (k := 0) (b := sub (cd Tryz.f22) [1, 1, 1, 1, 1, 1, 1, 0, 1, 0, 0, 1, 1, 0, 0, 1, 0, 1, 0, 0]) (e := .exit 7) (R := nat_S3 qs o i (midL qs o i) o.length ((midL qs o i).set i [g, rkOf (pts3 o) s o.length, s, 0]).length (((midL qs o i).set i [g, rkOf (pts3 o) s o.length, s, 0]).flatten.map intP)) o.length
    (fun j => nat_S3 qs o i (midL qs o i) j ((midL qs o i).set i [g, rkOf (pts3 o) s j, s, 0]).length (((midL qs o i).set i [g, rkOf (pts3 o) s j, s, 0]).flatten.map intP)) (fun j hj => ?_) (nat_L3_p2 (by rw [hml]; omega)) (by simp)
  · rw [e0] at this; exact this
  · have hr : Pt (pts3 o) ((midL qs o i).set i [g, rkOf (pts3 o) s j, s, 0]) := hpt.set hpi
    obtain ⟨q, hq⟩ : ∃ q, (pts3 o)[j]? = some q := ⟨_, List.getElem?_eq_getElem (by rw [List.length_map]; omega)⟩
    obtain ⟨a, b, d, hrj⟩ := hr.2 j q hq
    have hri : ((midL qs o i).set i [g, rkOf (pts3 o) s j, s, 0])[i]? = some [g, rkOf (pts3 o) s j, s, 0] := by
      rw [List.getElem?_set, if_pos rfl, if_pos (by omega)]
    have hbd := rkOf_bd (pts3 o) s j
    have hsucc := rkOf_succ (v := s) hq
    by_cases hlt : s < q
    · rw [if_pos hlt] at hsucc
      refine nat_L3_p0 (r' := (midL qs o i).set i [g, rkOf (pts3 o) s (j + 1), s, 0]) (by rw [hml]; omega) hrj hr.uni hri hlt (by unfold inR; omega) ?_ (inR_nat (by omega)) rfl (by rw [List.length_set, List.length_set]) ?_
      · rw [List.length_map, fl_len hr.uni, List.length_set, hml]; omega
      · rw [fl_setf hr.uni hri (by decide), List.set_set, hsucc]; rfl
    · rw [if_neg hlt] at hsucc
      rw [hsucc]
      exact nat_L3_p1 (by rw [hml]; omega) hrj hr.uni hri (by omega) (inR_nat (by omega)) rfl

theorem nat_outer (hb : Base o) (ho : o.length ≤ 31) (hqs : qs.length ≤ 31) : LoopOK Tryz.prog 0 (sub (cd Tryz.f22) [1, 1, 1, 1, 1, 1, 1, 0, 1, 0, 0]) (nat_S2 qs o 0 o.length (o.flatten.map intP)) (.exit 5)
    (nat_S2 qs o o.length (o.map (finR qs (pts3 o))).length ((o.map (finR qs (pts3 o))).flatten.map intP)) := by
  have := LoopOK.count (P := Tryz.prog) (k := 0) (b := sub (cd Tryz.f22) [1, 1, 1, 1, 1, 1, 1, 0, 1, 0, 0]) (e := .exit 5) (R := nat_S2 qs o o.length (o.map (finR qs (pts3 o))).length ((o.map (finR qs (pts3 o))).flatten.map intP)) o.length
    (fun i => nat_S2 qs o i (midL qs o i).length ((midL qs o i).flatten.map intP)) (fun i hi => ?_) (by rw [mid_end]; exact nat_L2_p2 (by omega)) (by simp)
  · rw [mid_zero] at this; exact this
  · obtain ⟨g, s, hgs⟩ := hb o[i] (List.getElem_mem hi)
    have hx : o[i]? = some [g, 1, s, 0] := by rw [List.getElem?_eq_getElem hi, hgs]
    have hL := nat_inner (qs := qs) hb ho hx
    have hml : (midL qs o i).length = o.length := mid_len (by omega)
    have hpt : Pt (pts3 o) (midL qs o i) := mid_pt hb (by omega)
    have hpi : (pts3 o)[i]? = some s := by rw [List.getElem?_map, hx]; rfl
    have hr : Pt (pts3 o) ((midL qs o i).set i [g, rkOf (pts3 o) s o.length, s, 0]) := hpt.set hpi
    have hri : ((midL qs o i).set i [g, rkOf (pts3 o) s o.length, s, 0])[i]? = some [g, rkOf (pts3 o) s o.length, s, 0] := by
      rw [List.getElem?_set, if_pos rfl, if_pos (by omega)]
    have hbd := rkOf_bd (pts3 o) s o.length
    have hpl : (pts3 o).length = o.length := List.length_map _
    have efin : midL qs o (i + 1) = (midL qs o i).set i [g, rkOf (pts3 o) s o.length, s, qtOf qs (rkOf (pts3 o) s o.length)] := by
      rw [mid_succ hx]; unfold finR; rw [hpl]; rfl
    by_cases hle : rkOf (pts3 o) s o.length ≤ (qs.length : Int)
    · have hq : qs[(rkOf (pts3 o) s o.length - 1).toNat]? = some (qtOf qs (rkOf (pts3 o) s o.length)) := by
        unfold qtOf
        rw [if_pos hle, List.getD_eq_getElem?_getD, List.getElem?_eq_getElem (by omega)]; rfl
      refine nat_L2_p0 (by omega) hL hri hr.uni hle (by unfold inR; omega) hq (by omega) ?_ (inR_nat (by omega)) rfl (by rw [mid_len (by omega), List.length_set, hml]) ?_
      · rw [List.length_map, fl_len hr.uni, List.length_set, hml]; omega
      · rw [fl_setf hr.uni hri (by decide), List.set_set, efin]; rfl
    · have hq : qtOf qs (rkOf (pts3 o) s o.length) = 0 := by unfold qtOf; rw [if_neg hle]
      rw [hq] at efin
      refine nat_L2_p1 (by omega) hL hri hr.uni (by omega) (inR_nat (by omega)) rfl (by rw [mid_len (by omega), List.length_set, hml]) (by rw [efin])
end

def nationsM (c : KL.Cup) (ns : List Int) (mo : Int) (qs : List Int) : List (List Int) := natL qs (outL ns (KL.totalsM c) mo (KL.totalsM c).length 31)
def natE (c : KL.Cup) (ns : List Int) (mo : Int) (qs : List Int) : Int :=
  if KL.checkP c ≠ 0 then KL.checkP c else if (ns.length : Int) ≠ c.sk ∨ within (qs.length : Int) 1 31 = false then 2 else
  if (ns.all fun x => within x 0 30) = false ∨ within mo 1 12 = false ∨ (qs.all fun x => within x 0 20) = false then 3 else if KL.fallsB qs = false then 4 else 0
theorem nodup_le : ∀ {S T : List Int}, S.Nodup → (∀ g ∈ S, g ∈ T) → S.length ≤ T.length
  | [], _, _, _ => Nat.zero_le _
  | a :: S, T, h, hs => by
    obtain ⟨h1, h2⟩ := List.nodup_cons.1 h
    have ha := hs a (List.mem_cons_self ..)
    have := nodup_le (T := T.erase a) h2 (fun g hg => (List.mem_erase_of_ne (fun e => h1 (by rw [← e]; exact hg))).2 (hs g (List.mem_cons_of_mem _ hg)))
    rw [List.length_erase_of_mem ha] at this
    have : 0 < T.length := List.length_pos_of_mem ha
    rw [List.length_cons]
    omega
theorem outL_few (ns ts : List Int) (mo : Int) (N n : Nat) (h : (ns.zip ts).length ≤ 12) : (outL ns ts mo N n).length ≤ 12 := by
  have key : ∀ n, ∃ S : List Int, S.Nodup ∧ S.length = (outL ns ts mo N n).length ∧ (∀ g ∈ S, g ∈ (ns.zip ts).map (·.1)) ∧ ∀ g ∈ S, g < n := by
    intro n
    induction n with
    | zero => exact ⟨[], .nil, rfl, by simp, by simp⟩
    | succ n ih =>
      obtain ⟨S, h1, h2, h3, h4⟩ := ih
      rw [outL_succ]
      unfold outG
      split
      · exact ⟨S, h1, by simpa using h2, h3, fun g hg => by have := h4 g hg; omega⟩
      · rename_i hg
        refine ⟨(n : Int) :: S, List.nodup_cons.2 ⟨fun hin => by have := h4 _ hin; omega, h1⟩, by simp [h2], fun g hg' => ?_, fun g hg' => ?_⟩
        · rcases List.mem_cons.1 hg' with rfl | hg'
          · obtain ⟨x, hx⟩ := List.exists_mem_of_ne_nil _ hg
            unfold grp at hx
            obtain ⟨p, hp, hx⟩ := List.mem_filterMap.1 hx
            split at hx
            · rename_i he
              exact List.mem_map.2 ⟨p, List.mem_of_mem_take hp, he⟩
            · cases hx
          · exact h3 g hg'
        · rcases List.mem_cons.1 hg' with rfl | hg'
          · omega
          · have := h4 g hg'; omega
  obtain ⟨S, h1, h2, h3, _⟩ := key n
  rw [← h2]
  have := nodup_le h1 h3
  rw [List.length_map] at this
  omega
theorem nat_main {c : KL.Cup} {ns : List Int} {mo : Int} {qs : List Int} (hV : KL.Valid c) (hl : (ns.length : Int) = c.sk) (hns : ∀ k ∈ ns, 0 ≤ k ∧ k ≤ 30) (hmo : 1 ≤ mo ∧ mo ≤ 12) (hqs : qs.length ≤ 31) (htl : (KL.totalsM c).length = c.sk.toNat) (hts : ∀ x ∈ KL.totalsM c, 0 ≤ x ∧ x ≤ 1000000) :
    CodeOK Tryz.prog 0 (sub (cd Tryz.f22) [1, 1, 1]) (stT c ns mo qs) .ret ⟨fr 161 [(8, (.p (.sl (nationsM c ns mo qs).length ((nationsM c ns mo qs).flatten.map intP)))), (9, (.p (intP 0)))], []⟩ := by
  have s1 := hV.sk1
  have s2 := hV.sk2
  refine CodeR.ok (by kernel_rfl) ?_
  rw [show sub (cd Tryz.f22) [1, 1, 1] = .seq (sub (cd Tryz.f22) [1, 1, 1, 0]) (.seq (.seq (sub (cd Tryz.f22) [1, 1, 1, 1, 0, 0]) (sub (cd Tryz.f22) [1, 1, 1, 1, 0, 1])) (.seq (sub (cd Tryz.f22) [1, 1, 1, 1, 1, 0]) (.seq (.seq (sub (cd Tryz.f22) [1, 1, 1, 1, 1, 1, 0, 0]) (sub (cd Tryz.f22) [1, 1, 1, 1, 1, 1, 0, 1])) (sub (cd Tryz.f22) [1, 1, 1, 1, 1, 1, 1])))) from by kernel_rfl]
  have htl' : ns.length = (KL.totalsM c).length := by omega
  have hw : ∀ k ∈ ns, (Lit.int .i64 k).wf = true := fun k hk => by
    have := hns k hk
    have h := wf_int (n := k.toNat) (by omega)
    rwa [Int.toNat_of_nonneg this.1] at h
  refine CodeR.seq (r10 (ts := KL.totalsM c)) (CodeR.seq (CodeR.seq (CodeR.ofM (f' := fun mv => stB ns mo qs mv (KL.totalsM c) 0) fun mb => n11_p0 hV) (nat_loop1 htl' hw (by omega))) (CodeR.seq (CodeR.ofM (f' := fun mv => ⟨fr 161 [(1, (.p (intsP ns))), (2, (.p (intP mo))), (3, (.p (intsP qs))), (12, (.p mv)), (15, (.p nilS))], []⟩) fun mb => n16_p0) (CodeR.seq (CodeR.seq ?_ (nat_loop2 (qs := qs) htl' (by omega) hmo hts)) ?_)))
  · refine (CodeR.ofM (f' := fun mv => stF ns mo qs mv 0 []) fun mb => n17_p0).mono (fun _ _ h => h) (fun st R h => ?_)
    obtain ⟨mb, es, cl, L, h1, rfl, h3, h4⟩ := h
    exact ⟨mb, es, cl, L, h1, by simp [mapR], fun e he _ => by simp [mapR]; exact .inr ⟨e, he, rfl⟩, h3, h4⟩
  · refine CodeR.of fun st R h => ⟨_, rfl, ?_⟩
    obtain ⟨mb, es, cl, L, rfl, _⟩ := h
    have hol := outL_len ns (KL.totalsM c) mo (KL.totalsM c).length 31
    have hb := base_outL ns (KL.totalsM c) mo (KL.totalsM c).length 31
    have hlen : (outL ns (KL.totalsM c) mo (KL.totalsM c).length 31).length ≤ 12 := outL_few _ _ _ _ _ (by rw [List.length_zip]; omega)
    refine CodeOK.pre (g := ⟨[1, 2, 12, 85], [0], [], []⟩) (st1 := ⟨fr 161 [(3, (.p (intsP qs))), (15, (.own 0))], [some (.row 40 (outL ns (KL.totalsM c) mo (KL.totalsM c).length 31).length ((outL ns (KL.totalsM c) mo (KL.totalsM c).length 31).flatten.map intP))]⟩) (by kernel_rfl) ?_
    exact n25_p0 (nat_outer hb hol hqs) (fun x hx => by
      obtain ⟨y, hy, rfl⟩ := List.mem_map.1 hx
      rfl) (by rw [List.length_map]; omega)
end KV
end Go.Proofs
end
section
namespace Go.Proofs
namespace KV
set_option maxRecDepth 100000
set_option linter.unusedVariables false
open KL
abbrev threeC : KL.Cup := ⟨3, 3, 2, [10, 6, 4], [[1, 2, 3], [3, 1, 1]]⟩
abbrev twoC : KL.Cup := ⟨2, 4, 4, [10, 4], [[1, 2], [1, 2], [1, 2]]⟩
theorem three_p0  {base : Nat} : FV Tryz.prog 85 [] base (.p (.agg [(intP 3), (intP 3), (intP 2), (.sl 3 [(intP 10), (intP 6), (intP 4)]), (.sl 2 [(.sl 3 [(intP 1), (intP 2), (intP 3)]), (.sl 3 [(intP 3), (intP 1), (intP 1)])])])) [] := by
  exact FV.frz (FMM.fin (k := 0) (g := ⟨[], [], [1, 4], []⟩) rfl Tryz.func85 rfl (o := []) (l := []) (by kernel_rfl) (Good.n)) (by kernel_rfl)
theorem two_p0  {base : Nat} : FV Tryz.prog 86 [] base (.p (.agg [(intP 2), (intP 4), (intP 4), (.sl 2 [(intP 10), (intP 4)]), (.sl 3 [(.sl 2 [(intP 1), (intP 2)]), (.sl 2 [(intP 1), (intP 2)]), (.sl 2 [(intP 1), (intP 2)])])])) [] := by
  exact FV.frz (FMM.fin (k := 0) (g := ⟨[], [], [1, 5], []⟩) rfl Tryz.func86 rfl (o := []) (l := []) (by kernel_rfl) (Good.n)) (by kernel_rfl)
theorem awake_p0 (h34_0 : ∀ base : Nat, FV Tryz.prog 34 [(.p (.agg [(intP 3), (intP 3), (intP 2), (.sl 3 [(intP 10), (intP 6), (intP 4)]), (.sl 2 [(.sl 3 [(intP 1), (intP 2), (intP 3)]), (.sl 3 [(intP 3), (intP 1), (intP 1)])])]))] base (.tup [(.p (.sl 3 [(intP 1), (intP 1), (intP 14), (intP 1), (intP 0), (intP 2), (intP 14), (intP 1), (intP 2), (intP 3), (intP 12), (intP 1)])), (.p (intP 0))]) []) (h37_1 : ∀ base : Nat, FV Tryz.prog 37 [(.p (.agg [(intP 3), (intP 3), (intP 2), (.sl 3 [(intP 10), (intP 6), (intP 4)]), (.sl 2 [(.sl 3 [(intP 1), (intP 2), (intP 3)]), (.sl 3 [(intP 3), (intP 1), (intP 1)])])]))] base (.tup [(.p (.sl 3 [(intP 0), (intP 1), (intP 2)])), (.p (intP 0))]) []) (h38_2 : ∀ base : Nat, FV Tryz.prog 38 [(.p (.agg [(intP 3), (intP 3), (intP 2), (.sl 3 [(intP 10), (intP 6), (intP 4)]), (.sl 2 [(.sl 3 [(intP 1), (intP 2), (intP 3)]), (.sl 3 [(intP 3), (intP 1), (intP 1)])])]))] base (.tup [(.p (.sl 0 [])), (.p (intP 0))]) []) (h55_3 : ∀ base : Nat, FV Tryz.prog 55 [(.p (.agg [(intP 3), (intP 3), (intP 2), (.sl 3 [(intP 10), (intP 6), (intP 4)]), (.sl 2 [(.sl 3 [(intP 1), (intP 2), (intP 3)]), (.sl 3 [(intP 3), (intP 1), (intP 1)])])])), (.p (intP 1))] base (.tup [(.p (intP 3)), (.p (.sl 3 [(intP 1), (intP 0), (intP 2)])), (.p (intP 0))]) []) (h39_4 : ∀ base : Nat, FV Tryz.prog 39 [(.p (.sl 3 [(intP 1), (intP 1), (intP 14), (intP 1), (intP 0), (intP 2), (intP 14), (intP 1), (intP 2), (intP 3), (intP 12), (intP 1)])), (.p (.sl 3 [(intP 1), (intP 1), (intP 14), (intP 1), (intP 0), (intP 2), (intP 14), (intP 1), (intP 2), (intP 3), (intP 12), (intP 1)]))] base (.p (blP true)) []) (h25_5 : ∀ base : Nat, FV Tryz.prog 25 [(.p (.sl 3 [(intP 0), (intP 1), (intP 2)])), (.p (.sl 3 [(intP 0), (intP 1), (intP 2)]))] base (.p (blP true)) []) (h73_6 : ∀ base : Nat, FV Tryz.prog 73 [(.p (.agg [(intP 2), (intP 4), (intP 4), (.sl 2 [(intP 10), (intP 4)]), (.sl 3 [(.sl 2 [(intP 1), (intP 2)]), (.sl 2 [(intP 1), (intP 2)]), (.sl 2 [(intP 1), (intP 2)])])]))] base (.tup [(.p (intP 3)), (.p (intP 0)), (.p (intP 0))]) []) (h56_7 : ∀ base : Nat, FV Tryz.prog 56 [(.p (.agg [(intP 3), (intP 3), (intP 2), (.sl 3 [(intP 10), (intP 6), (intP 4)]), (.sl 2 [(.sl 3 [(intP 1), (intP 2), (intP 3)]), (.sl 3 [(intP 3), (intP 1), (intP 1)])])])), (.p (intP 2))] base (.tup [(.p (.sl 3 [(intP 2), (intP 3), (intP 1)])), (.p (intP 0))]) []) (h22_8 : ∀ base : Nat, FV Tryz.prog 22 [(.p (.agg [(intP 3), (intP 3), (intP 2), (.sl 3 [(intP 10), (intP 6), (intP 4)]), (.sl 2 [(.sl 3 [(intP 1), (intP 2), (intP 3)]), (.sl 3 [(intP 3), (intP 1), (intP 1)])])])), (.p (.sl 3 [(intP 5), (intP 5), (intP 9)])), (.p (intP 1)), (.p (.sl 2 [(intP 4), (intP 3)]))] base (.tup [(.p (.sl 2 [(intP 5), (intP 1), (intP 14), (intP 4), (intP 9), (intP 2), (intP 12), (intP 3)])), (.p (intP 0))]) []) (h87_9 : ∀ base : Nat, FV Tryz.prog 87 [(.p (.sl 2 [(intP 5), (intP 1), (intP 14), (intP 4), (intP 9), (intP 2), (intP 12), (intP 3)])), (.p (.sl 2 [(intP 5), (intP 1), (intP 14), (intP 4), (intP 9), (intP 2), (intP 12), (intP 3)]))] base (.p (blP true)) []) {base : Nat} : FV Tryz.prog 19 [] base (.p (blP true)) [] := by
  exact FV.fin Tryz.func19 rfl (o := [.c (.p (.agg [(intP 3), (intP 3), (intP 2), (.sl 3 [(intP 10), (intP 6), (intP 4)]), (.sl 2 [(.sl 3 [(intP 1), (intP 2), (intP 3)]), (.sl 3 [(intP 3), (intP 1), (intP 1)])])])) [], .c (.tup [(.p (.sl 3 [(intP 1), (intP 1), (intP 14), (intP 1), (intP 0), (intP 2), (intP 14), (intP 1), (intP 2), (intP 3), (intP 12), (intP 1)])), (.p (intP 0))]) [], .c (.p (.agg [(intP 3), (intP 3), (intP 2), (.sl 3 [(intP 10), (intP 6), (intP 4)]), (.sl 2 [(.sl 3 [(intP 1), (intP 2), (intP 3)]), (.sl 3 [(intP 3), (intP 1), (intP 1)])])])) [], .c (.tup [(.p (.sl 3 [(intP 0), (intP 1), (intP 2)])), (.p (intP 0))]) [], .c (.p (.agg [(intP 3), (intP 3), (intP 2), (.sl 3 [(intP 10), (intP 6), (intP 4)]), (.sl 2 [(.sl 3 [(intP 1), (intP 2), (intP 3)]), (.sl 3 [(intP 3), (intP 1), (intP 1)])])])) [], .c (.tup [(.p (.sl 0 [])), (.p (intP 0))]) [], .c (.p (.agg [(intP 3), (intP 3), (intP 2), (.sl 3 [(intP 10), (intP 6), (intP 4)]), (.sl 2 [(.sl 3 [(intP 1), (intP 2), (intP 3)]), (.sl 3 [(intP 3), (intP 1), (intP 1)])])])) [], .c (.tup [(.p (intP 3)), (.p (.sl 3 [(intP 1), (intP 0), (intP 2)])), (.p (intP 0))]) [], .b false, .b false, .b false, .b false, .b false, .b false, .b false, .b false, .b false, .b false, .b false, .b false, .b false, .b false, .b false, .c (.p (blP true)) [], .b false, .b false, .b false, .b false, .b false, .c (.p (blP true)) [], .b false, .b false, .b false, .b false, .b false, .b false, .b false, .b false, .b false, .b false, .c (.p (.agg [(intP 2), (intP 4), (intP 4), (.sl 2 [(intP 10), (intP 4)]), (.sl 3 [(.sl 2 [(intP 1), (intP 2)]), (.sl 2 [(intP 1), (intP 2)]), (.sl 2 [(intP 1), (intP 2)])])])) [], .c (.tup [(.p (intP 3)), (.p (intP 0)), (.p (intP 0))]) [], .c (.p (.agg [(intP 3), (intP 3), (intP 2), (.sl 3 [(intP 10), (intP 6), (intP 4)]), (.sl 2 [(.sl 3 [(intP 1), (intP 2), (intP 3)]), (.sl 3 [(intP 3), (intP 1), (intP 1)])])])) [], .c (.tup [(.p (.sl 3 [(intP 2), (intP 3), (intP 1)])), (.p (intP 0))]) [], .c (.p (.agg [(intP 3), (intP 3), (intP 2), (.sl 3 [(intP 10), (intP 6), (intP 4)]), (.sl 2 [(.sl 3 [(intP 1), (intP 2), (intP 3)]), (.sl 3 [(intP 3), (intP 1), (intP 1)])])])) [], .c (.tup [(.p (.sl 2 [(intP 5), (intP 1), (intP 14), (intP 4), (intP 9), (intP 2), (intP 12), (intP 3)])), (.p (intP 0))]) [(2, .dead), (3, .dead)], .b true, .b true, .b true, .b true, .b true, .b true, .b true, .b true, .b true, .b true, .b true, .b true, .b true, .b true, .b true, .b true, .b true, .b true, .b true, .x (intP 1), .b true, .b true, .b true, .b true, .b true, .b true, .b true, .c (.p (blP true)) [], .b true]) (l := [((1 : Int) == (1 : Int)) = true, FC Tryz.prog 87 [(.p (.sl 2 [(intP 5), (intP 1), (intP 14), (intP 4), (intP 9), (intP 2), (intP 12), (intP 3)])), (.own 4)] [(4, (.row 40 2 [(intP 5), (intP 1), (intP 14), (intP 4), (intP 9), (intP 2), (intP 12), (intP 3)]))] 5 (.p (blP true)) [], ((1 : Int) == (1 : Int)) = true, ((1 : Int) == (1 : Int)) = true, ((1 : Int) == (1 : Int)) = true, ((1 : Int) == (1 : Int)) = true, ((1 : Int) == (1 : Int)) = true, ((3 : Int) == (3 : Int)) = true, ((3 : Int) == (3 : Int)) = true, [(intP 2), (intP 3), (intP 1)][2]? = some (intP 1), ((3 : Int) == (3 : Int)) = true, 0 ≤ (2 : Int) ∧ (2 : Int) < (3 : Int) ∧ 2 < [(intP 2), (intP 3), (intP 1)].length, ((3 : Int) == (3 : Int)) = true, ((3 : Int) == (3 : Int)) = true, ((0 : Int) == (0 : Int)) = true, ((0 : Int) == (0 : Int)) = true, ((0 : Int) == (0 : Int)) = true, ((0 : Int) == (0 : Int)) = true, ((3 : Int) == (3 : Int)) = true, ((3 : Int) == (3 : Int)) = true, ((3 : Int) == (3 : Int)) = true, ((0 : Int) == (0 : Int)) = true, ((0 : Int) == (0 : Int)) = true, ((0 : Int) == (0 : Int)) = true, ((0 : Int) == (0 : Int)) = true, ((0 : Int) == (0 : Int)) = true, ((0 : Int) == (0 : Int)) = true, ((0 : Int) == (0 : Int)) = true, ((0 : Int) == (0 : Int)) = true, ((0 : Int) == (0 : Int)) = true, FC Tryz.prog 22 [(.p (.agg [(intP 3), (intP 3), (intP 2), (.sl 3 [(intP 10), (intP 6), (intP 4)]), (.sl 2 [(.sl 3 [(intP 1), (intP 2), (intP 3)]), (.sl 3 [(intP 3), (intP 1), (intP 1)])])])), (.own 2), (.p (intP 1)), (.own 3)] [(2, (.row 3 3 [(intP 5), (intP 5), (intP 9)])), (3, (.row 3 2 [(intP 4), (intP 3)]))] 4 (.tup [(.p (.sl 2 [(intP 5), (intP 1), (intP 14), (intP 4), (intP 9), (intP 2), (intP 12), (intP 3)])), (.p (intP 0))]) [(2, .dead), (3, .dead)], FC Tryz.prog 85 [] [] 2 (.p (.agg [(intP 3), (intP 3), (intP 2), (.sl 3 [(intP 10), (intP 6), (intP 4)]), (.sl 2 [(.sl 3 [(intP 1), (intP 2), (intP 3)]), (.sl 3 [(intP 3), (intP 1), (intP 1)])])])) [], FC Tryz.prog 56 [(.p (.agg [(intP 3), (intP 3), (intP 2), (.sl 3 [(intP 10), (intP 6), (intP 4)]), (.sl 2 [(.sl 3 [(intP 1), (intP 2), (intP 3)]), (.sl 3 [(intP 3), (intP 1), (intP 1)])])])), (.p (intP 2))] [] 2 (.tup [(.p (.sl 3 [(intP 2), (intP 3), (intP 1)])), (.p (intP 0))]) [], FC Tryz.prog 85 [] [] 2 (.p (.agg [(intP 3), (intP 3), (intP 2), (.sl 3 [(intP 10), (intP 6), (intP 4)]), (.sl 2 [(.sl 3 [(intP 1), (intP 2), (intP 3)]), (.sl 3 [(intP 3), (intP 1), (intP 1)])])])) [], FC Tryz.prog 73 [(.p (.agg [(intP 2), (intP 4), (intP 4), (.sl 2 [(intP 10), (intP 4)]), (.sl 3 [(.sl 2 [(intP 1), (intP 2)]), (.sl 2 [(intP 1), (intP 2)]), (.sl 2 [(intP 1), (intP 2)])])]))] [] 2 (.tup [(.p (intP 3)), (.p (intP 0)), (.p (intP 0))]) [], FC Tryz.prog 86 [] [] 2 (.p (.agg [(intP 2), (intP 4), (intP 4), (.sl 2 [(intP 10), (intP 4)]), (.sl 3 [(.sl 2 [(intP 1), (intP 2)]), (.sl 2 [(intP 1), (intP 2)]), (.sl 2 [(intP 1), (intP 2)])])])) [], ((3 : Int) != (3 : Int)) = false, ((0 : Int) != (0 : Int)) = false, ((0 : Int) != (0 : Int)) = false, ((0 : Int) != (0 : Int)) = false, false = false, false = false, false = false, false = false, false = false, false = false, FC Tryz.prog 25 [(.p (.sl 3 [(intP 0), (intP 1), (intP 2)])), (.own 1)] [(1, (.row 3 3 [(intP 0), (intP 1), (intP 2)]))] 2 (.p (blP true)) [], false = false, false = false, false = false, ((0 : Int) != (0 : Int)) = false, ((0 : Int) != (0 : Int)) = false, FC Tryz.prog 39 [(.p (.sl 3 [(intP 1), (intP 1), (intP 14), (intP 1), (intP 0), (intP 2), (intP 14), (intP 1), (intP 2), (intP 3), (intP 12), (intP 1)])), (.own 0)] [(0, (.row 61 3 [(intP 1), (intP 1), (intP 14), (intP 1), (intP 0), (intP 2), (intP 14), (intP 1), (intP 2), (intP 3), (intP 12), (intP 1)]))] 1 (.p (blP true)) [], ((0 : Int) != (0 : Int)) = false, ((0 : Int) != (0 : Int)) = false, ((0 : Int) != (0 : Int)) = false, ((0 : Int) != (0 : Int)) = false, ((0 : Int) != (0 : Int)) = false, ((0 : Int) != (0 : Int)) = false, ((0 : Int) != (0 : Int)) = false, ((0 : Int) != (0 : Int)) = false, ((0 : Int) != (0 : Int)) = false, ((0 : Int) != (0 : Int)) = false, ((0 : Int) != (0 : Int)) = false, ((0 : Int) != (0 : Int)) = false, ((0 : Int) != (0 : Int)) = false, ((0 : Int) != (0 : Int)) = false, ((0 : Int) != (0 : Int)) = false, FC Tryz.prog 55 [(.p (.agg [(intP 3), (intP 3), (intP 2), (.sl 3 [(intP 10), (intP 6), (intP 4)]), (.sl 2 [(.sl 3 [(intP 1), (intP 2), (intP 3)]), (.sl 3 [(intP 3), (intP 1), (intP 1)])])])), (.p (intP 1))] [] 0 (.tup [(.p (intP 3)), (.p (.sl 3 [(intP 1), (intP 0), (intP 2)])), (.p (intP 0))]) [], FC Tryz.prog 85 [] [] 0 (.p (.agg [(intP 3), (intP 3), (intP 2), (.sl 3 [(intP 10), (intP 6), (intP 4)]), (.sl 2 [(.sl 3 [(intP 1), (intP 2), (intP 3)]), (.sl 3 [(intP 3), (intP 1), (intP 1)])])])) [], FC Tryz.prog 38 [(.p (.agg [(intP 3), (intP 3), (intP 2), (.sl 3 [(intP 10), (intP 6), (intP 4)]), (.sl 2 [(.sl 3 [(intP 1), (intP 2), (intP 3)]), (.sl 3 [(intP 3), (intP 1), (intP 1)])])]))] [] 0 (.tup [(.p (.sl 0 [])), (.p (intP 0))]) [], FC Tryz.prog 85 [] [] 0 (.p (.agg [(intP 3), (intP 3), (intP 2), (.sl 3 [(intP 10), (intP 6), (intP 4)]), (.sl 2 [(.sl 3 [(intP 1), (intP 2), (intP 3)]), (.sl 3 [(intP 3), (intP 1), (intP 1)])])])) [], FC Tryz.prog 37 [(.p (.agg [(intP 3), (intP 3), (intP 2), (.sl 3 [(intP 10), (intP 6), (intP 4)]), (.sl 2 [(.sl 3 [(intP 1), (intP 2), (intP 3)]), (.sl 3 [(intP 3), (intP 1), (intP 1)])])]))] [] 0 (.tup [(.p (.sl 3 [(intP 0), (intP 1), (intP 2)])), (.p (intP 0))]) [], FC Tryz.prog 85 [] [] 0 (.p (.agg [(intP 3), (intP 3), (intP 2), (.sl 3 [(intP 10), (intP 6), (intP 4)]), (.sl 2 [(.sl 3 [(intP 1), (intP 2), (intP 3)]), (.sl 3 [(intP 3), (intP 1), (intP 1)])])])) [], FC Tryz.prog 34 [(.p (.agg [(intP 3), (intP 3), (intP 2), (.sl 3 [(intP 10), (intP 6), (intP 4)]), (.sl 2 [(.sl 3 [(intP 1), (intP 2), (intP 3)]), (.sl 3 [(intP 3), (intP 1), (intP 1)])])]))] [] 0 (.tup [(.p (.sl 3 [(intP 1), (intP 1), (intP 14), (intP 1), (intP 0), (intP 2), (intP 14), (intP 1), (intP 2), (intP 3), (intP 12), (intP 1)])), (.p (intP 0))]) [], FC Tryz.prog 85 [] [] 0 (.p (.agg [(intP 3), (intP 3), (intP 2), (.sl 3 [(intP 10), (intP 6), (intP 4)]), (.sl 2 [(.sl 3 [(intP 1), (intP 2), (intP 3)]), (.sl 3 [(intP 3), (intP 1), (intP 1)])])])) []]) (by kernel_rfl) (Good.c (by first | decide | simp) (Good.c (FV.view (args' := [(.p (.sl 2 [(intP 5), (intP 1), (intP 14), (intP 4), (intP 9), (intP 2), (intP 12), (intP 3)])), (.p (.sl 2 [(intP 5), (intP 1), (intP 14), (intP 4), (intP 9), (intP 2), (intP 12), (intP 3)]))]) (h87_9 _) (by kernel_rfl) (by kernel_rfl) (by kernel_rfl)) (Good.c (by first | decide | simp) (Good.c (by first | decide | simp) (Good.c (by first | decide | simp) (Good.c (by first | decide | simp) (Good.c (by first | decide | simp) (Good.c (by first | decide | simp) (Good.c (by first | decide | simp) (Good.c rfl (Good.c (by first | decide | simp) (Good.c (by first | decide | simp) (Good.c (by first | decide | simp) (Good.c (by first | decide | simp) (Good.c (by first | decide | simp) (Good.c (by first | decide | simp) (Good.c (by first | decide | simp) (Good.c (by first | decide | simp) (Good.c (by first | decide | simp) (Good.c (by first | decide | simp) (Good.c (by first | decide | simp) (Good.c (by first | decide | simp) (Good.c (by first | decide | simp) (Good.c (by first | decide | simp) (Good.c (by first | decide | simp) (Good.c (by first | decide | simp) (Good.c (by first | decide | simp) (Good.c (by first | decide | simp) (Good.c (by first | decide | simp) (Good.c (by first | decide | simp) (Good.c (FV.close (ids := [2, 3]) (args' := [(.p (.agg [(intP 3), (intP 3), (intP 2), (.sl 3 [(intP 10), (intP 6), (intP 4)]), (.sl 2 [(.sl 3 [(intP 1), (intP 2), (intP 3)]), (.sl 3 [(intP 3), (intP 1), (intP 1)])])])), (.p (.sl 3 [(intP 5), (intP 5), (intP 9)])), (.p (intP 1)), (.p (.sl 2 [(intP 4), (intP 3)]))]) (h22_8 _) (by kernel_rfl)) (Good.c (FV.fc three_p0 (by kernel_rfl)) (Good.c (FV.fc (h56_7 _) (by kernel_rfl)) (Good.c (FV.fc three_p0 (by kernel_rfl)) (Good.c (FV.fc (h73_6 _) (by kernel_rfl)) (Good.c (FV.fc two_p0 (by kernel_rfl)) (Good.c (by first | decide | simp) (Good.c (by first | decide | simp) (Good.c (by first | decide | simp) (Good.c (by first | decide | simp) (Good.c rfl (Good.c rfl (Good.c rfl (Good.c rfl (Good.c rfl (Good.c rfl (Good.c (FV.view (args' := [(.p (.sl 3 [(intP 0), (intP 1), (intP 2)])), (.p (.sl 3 [(intP 0), (intP 1), (intP 2)]))]) (h25_5 _) (by kernel_rfl) (by kernel_rfl) (by kernel_rfl)) (Good.c rfl (Good.c rfl (Good.c rfl (Good.c (by first | decide | simp) (Good.c (by first | decide | simp) (Good.c (FV.view (args' := [(.p (.sl 3 [(intP 1), (intP 1), (intP 14), (intP 1), (intP 0), (intP 2), (intP 14), (intP 1), (intP 2), (intP 3), (intP 12), (intP 1)])), (.p (.sl 3 [(intP 1), (intP 1), (intP 14), (intP 1), (intP 0), (intP 2), (intP 14), (intP 1), (intP 2), (intP 3), (intP 12), (intP 1)]))]) (h39_4 _) (by kernel_rfl) (by kernel_rfl) (by kernel_rfl)) (Good.c (by first | decide | simp) (Good.c (by first | decide | simp) (Good.c (by first | decide | simp) (Good.c (by first | decide | simp) (Good.c (by first | decide | simp) (Good.c (by first | decide | simp) (Good.c (by first | decide | simp) (Good.c (by first | decide | simp) (Good.c (by first | decide | simp) (Good.c (by first | decide | simp) (Good.c (by first | decide | simp) (Good.c (by first | decide | simp) (Good.c (by first | decide | simp) (Good.c (by first | decide | simp) (Good.c (by first | decide | simp) (Good.c (FV.fc (h55_3 _) (by kernel_rfl)) (Good.c (FV.fc three_p0 (by kernel_rfl)) (Good.c (FV.fc (h38_2 _) (by kernel_rfl)) (Good.c (FV.fc three_p0 (by kernel_rfl)) (Good.c (FV.fc (h37_1 _) (by kernel_rfl)) (Good.c (FV.fc three_p0 (by kernel_rfl)) (Good.c (FV.fc (h34_0 _) (by kernel_rfl)) (Good.c (FV.fc three_p0 (by kernel_rfl)) Good.n))))))))))))))))))))))))))))))))))))))))))))))))))))))))))))))))))))))))))))
end KV
end Go.Proofs
end
section
namespace Go.Proofs
namespace KL
def insI (x : Int) : List Int → List Int
  | [] => [x]
  | y :: r => if x ≤ y then x :: y :: r else y :: insI x r
def sortI : List Int → List Int
  | [] => []
  | x :: r => insI x (sortI r)
theorem insI_perm (x : Int) : ∀ l, (insI x l).Perm (x :: l)
  | [] => .refl _
  | y :: r => by
    unfold insI
    split
    · exact .refl _
    · exact ((insI_perm x r).cons y).trans (List.Perm.swap x y r)
theorem sortI_perm : ∀ l, (sortI l).Perm l
  | [] => .refl _
  | x :: r => (insI_perm x _).trans ((sortI_perm r).cons x)
theorem insI_sorted (x : Int) : ∀ l, l.Pairwise (· ≤ ·) → (insI x l).Pairwise (· ≤ ·)
  | [], _ => by simp [insI]
  | y :: r, h => by
    obtain ⟨h1, h2⟩ := List.pairwise_cons.1 h
    unfold insI
    split
    · rename_i hx
      exact List.pairwise_cons.2 ⟨fun z hz => by
        rcases List.mem_cons.1 hz with rfl | hz
        · exact hx
        · have := h1 z hz; omega, h⟩
    · rename_i hx
      refine List.pairwise_cons.2 ⟨fun z hz => ?_, insI_sorted x r h2⟩
      rcases List.mem_cons.1 ((insI_perm x r).mem_iff.1 hz) with rfl | hz
      · omega
      · exact h1 z hz
theorem sortI_sorted : ∀ l, (sortI l).Pairwise (· ≤ ·)
  | [] => .nil
  | x :: r => insI_sorted x _ (sortI_sorted r)
theorem sorted_eq : ∀ (a b : List Int), a.Perm b → a.Pairwise (· ≤ ·) → b.Pairwise (· ≤ ·) → a = b
  | [], b, h, _, _ => (List.nil_perm.1 h).symm
  | x :: r, [], h, _, _ => absurd h.length_eq (by simp)
  | x :: r, y :: t, h, ha, hb => by
    obtain ⟨h1, h2⟩ := List.pairwise_cons.1 ha
    obtain ⟨h3, h4⟩ := List.pairwise_cons.1 hb
    have e : x = y := by
      have m1 : x ∈ y :: t := h.mem_iff.1 (List.mem_cons_self ..)
      have m2 : y ∈ x :: r := h.mem_iff.2 (List.mem_cons_self ..)
      rcases List.mem_cons.1 m1 with e | m1
      · exact e
      · rcases List.mem_cons.1 m2 with e | m2
        · exact e.symm
        · have := h1 y m2; have := h3 x m1; omega
    subst e
    rw [sorted_eq r t (List.Perm.cons_inv h) h2 h4]
theorem mergeSort_eq (l : List Int) : l.mergeSort leB = sortI l := by
  refine sorted_eq _ _ ((List.mergeSort_perm _ _).trans (sortI_perm l).symm) ?_ (sortI_sorted l)
  have := List.pairwise_mergeSort leB_trans leB_total l
  exact this.imp (fun h => by simpa [leB] using h)
end KL
namespace KV
open KL
theorem h39 (base : Nat) : FV Tryz.prog 39 [(.p (.sl 3 [(intP 1), (intP 1), (intP 14), (intP 1), (intP 0), (intP 2), (intP 14), (intP 1), (intP 2), (intP 3), (intP 12), (intP 1)])), (.p (.sl 3 [(intP 1), (intP 1), (intP 14), (intP 1), (intP 0), (intP 2), (intP 14), (intP 1), (intP 2), (intP 3), (intP 12), (intP 1)]))] base (.p (blP true)) [] :=
  eql_ok [[1, 1, 14, 1], [0, 2, 14, 1], [2, 3, 12, 1]] [[1, 1, 14, 1], [0, 2, 14, 1], [2, 3, 12, 1]] (by decide) (by unfold uni; decide) (by unfold uni; decide)
theorem h25 (base : Nat) : FV Tryz.prog 25 [(.p (.sl 3 [(intP 0), (intP 1), (intP 2)])), (.p (.sl 3 [(intP 0), (intP 1), (intP 2)]))] base (.p (blP true)) [] := eqi_ok [0, 1, 2] [0, 1, 2] (by decide)
theorem h87 (base : Nat) : FV Tryz.prog 87 [(.p (.sl 2 [(intP 5), (intP 1), (intP 14), (intP 4), (intP 9), (intP 2), (intP 12), (intP 3)])), (.p (.sl 2 [(intP 5), (intP 1), (intP 14), (intP 4), (intP 9), (intP 2), (intP 12), (intP 3)]))] base (.p (blP true)) [] :=
  eqn_ok [[5, 1, 14, 4], [9, 2, 12, 3]] [[5, 1, 14, 4], [9, 2, 12, 3]] (by decide) (by unfold uni; decide) (by unfold uni; decide)
theorem countedL_eq (c : KL.Cup) (s : Nat) : KL.countedL c s = KL.sortI ((KL.isort (KL.ltC (KL.cntCmp c s)) (KL.idx c.done.length)).take (min c.done.length c.be.toNat)) := by
  unfold KL.countedL
  exact KL.mergeSort_eq _
def totK (c : KL.Cup) (s : Nat) : Int := ((KL.sortI ((KL.isort (KL.ltC (KL.cntCmp c s)) (KL.idx c.done.length)).take (min c.done.length c.be.toNat))).map fun i => KL.scoreAt c i.toNat s).sum
theorem totalM_eq (c : KL.Cup) (s : Nat) : KL.totalM c s = totK c s := by
  unfold KL.totalM totK
  rw [countedL_eq]
def betK (c : KL.Cup) (a b : Nat) : Bool := KL.betterF (totK c a) (totK c b) (KL.placesM c a) (KL.placesM c b)
theorem betS_eq (c : KL.Cup) (a b : Nat) : KL.betS c a b = betK c a b := by
  unfold KL.betS betK
  rw [totalM_eq, totalM_eq]
def rankK (c : KL.Cup) (s : Nat) : Int := 1 + ((KL.oth s c.sk.toNat).countP (fun x => betK c x s) : Nat)
theorem rankM_eq (c : KL.Cup) (s : Nat) : KL.rankM c s = rankK c s := by
  unfold KL.rankM rankK
  simp only [betS_eq]
def canK (c : KL.Cup) (s : Nat) : Bool := rankK (KL.withC c (KL.wonM c s)) s == 1
theorem canM_eq (c : KL.Cup) : KL.canM c = canK c := by
  funext s
  unfold KL.canM canK
  rw [rankM_eq]
set_option maxRecDepth 100000 in
theorem v37 : whoM (KL.canM threeC) 3 = [0, 1, 2] := by
  rw [canM_eq]
  kernel_rfl
theorem clash_no {race : List Int} (h0 : ∀ x ∈ race, 0 ≤ x) (h : KL.NoClash race) : KL.clashR race = false := (KL.clash_iff race h0).2 h
theorem valid_three : KL.Valid threeC where
  sk1 := by decide
  sk2 := by decide
  ra1 := by decide
  ra2 := by decide
  be1 := by decide
  be2 := by decide
  pt1 := by decide
  pt2 := by decide
  dn := by decide
  len := by decide
  pts := by decide
  rows := by decide
  falls := by kernel_rfl
  clash := by
    show (KL.clashR [1, 2, 3] || (KL.clashR [3, 1, 1] || false)) = false
    rw [clash_no (by decide) (by unfold KL.NoClash; decide), clash_no (by decide) (by unfold KL.NoClash; decide)]
    rfl
theorem valid_two : KL.Valid twoC where
  sk1 := by decide
  sk2 := by decide
  ra1 := by decide
  ra2 := by decide
  be1 := by decide
  be2 := by decide
  pt1 := by decide
  pt2 := by decide
  dn := by decide
  len := by decide
  pts := by decide
  rows := by decide
  falls := by kernel_rfl
  clash := by
    show (KL.clashR [1, 2] || (KL.clashR [1, 2] || (KL.clashR [1, 2] || false))) = false
    rw [clash_no (by decide) (by unfold KL.NoClash; decide)]
    rfl
theorem h37 (base : Nat) : FV Tryz.prog 37 [.p (cupP threeC)] base (.tup [.p (intsP [0, 1, 2]), .p (intP 0)]) [] := by
  have := canE_ok threeC valid_three (base := base)
  rwa [show whoM (KL.canM threeC) threeC.sk.toNat = [0, 1, 2] from v37] at this
theorem v34 : tableM threeC = [[1, 1, 14, 1], [0, 2, 14, 1], [2, 3, 12, 1]] := by
  unfold tableM tabL
  simp only [rankM_eq, totalM_eq]
  kernel_rfl
theorem h34 (base : Nat) : FV Tryz.prog 34 [.p (cupP threeC)] base (.tup [.p (.sl 3 ([[1, 1, 14, 1], [0, 2, 14, 1], [2, 3, 12, 1]].flatten.map intP)), .p (intP 0)]) [] := by
  have := table_ok threeC valid_three (base := base)
  rwa [v34] at this
theorem lastE_three (k : Int) (h : 0 ≤ k ∧ k < 3) : lastE threeC k = 0 := by
  unfold lastE
  rw [named_in valid_three h.1 h.2]
  rfl
def beatK (c : KL.Cup) (o : Nat) (p : Int) (s : Nat) (w : Int) : Bool := betK (KL.withC c [KL.race2 c.sk.toNat o p s w]) o s
theorem beatsM_fun : beatsM = beatK := by funext c o p s w; unfold beatsM beatK; rw [betS_eq]
def findK (c : KL.Cup) (s : Nat) (pl : Int) (free : List Int) : Int := (KL.oth s c.sk.toNat).foldl (fun fo x => if fo < 0 then (if free.getD x 0 = 0 then (if beatK c x pl s 1 then fo else (x : Int)) else fo) else fo) (-1)
theorem findM_eq (c : KL.Cup) (s : Nat) (pl : Int) (free : List Int) : findM c s pl free = findK c s pl free := by
  have : findF c s pl free = fun fo x => if fo < 0 then (if free.getD x 0 = 0 then (if beatK c x pl s 1 then fo else (x : Int)) else fo) else fo := by
    funext fo x
    unfold findF
    rw [beatsM_fun]
  unfold findM findK
  rw [this]
def fullRK (c : KL.Cup) (s : Nat) : Nat → Int → List Int → Option (List Int)
  | 0, _, free => some free
  | n + 1, pl, free => if findK c s pl free < 0 then none else fullRK c s n (pl + 1) (free.set (findK c s pl free).toNat pl)
theorem fullR_eq (c : KL.Cup) (s : Nat) : ∀ n pl free, fullR c s n pl free = fullRK c s n pl free
  | 0, _, _ => rfl
  | n + 1, pl, free => by
    unfold fullR fullRK
    rw [findM_eq, fullR_eq c s n]
theorem v56 : fullM threeC 2 = some [2, 3, 1] := by
  unfold fullM
  rw [fullR_eq]
  kernel_rfl
theorem h56 (base : Nat) : FV Tryz.prog 56 [.p (cupP threeC), .p (intP 2)] base (.tup [.p (intsP [2, 3, 1]), .p (intP 0)]) [] := by
  have := full_ok threeC 2 (lastE_three 2 (by omega)) (base := base)
  rw [v56] at this
  exact this
def passK (c : KL.Cup) (skier s : Nat) : Bool := decide (s ≠ skier) && decide (1 < rankK (KL.withC c (KL.wonM c s)) skier)
theorem passes_eq (c : KL.Cup) (skier s : Nat) : KL.passes c skier s = passK c skier s := by
  unfold KL.passes passK
  rw [rankM_eq]
def agK (c : KL.Cup) (skier : Nat) : Nat → Nat → Option Nat
  | 0, _ => none
  | f + 1, k => if passK c skier k then some k else agK c skier f (k + 1)
theorem ag_eq (c : KL.Cup) (skier : Nat) : ∀ f k, KL.againstAt c skier f k = agK c skier f k
  | 0, _ => rfl
  | f + 1, k => by
    unfold KL.againstAt agK
    rw [passes_eq, ag_eq c skier f]
def sureK (c : KL.Cup) (s : Nat) : Bool := !(agK c s c.sk.toNat 0).isSome
theorem sureM_eq (c : KL.Cup) : KL.sureM c = sureK c := by
  funext s
  unfold KL.sureM sureK KL.againstM
  rw [ag_eq]
theorem v38 : whoM (KL.sureM threeC) 3 = [] := by
  rw [sureM_eq]
  kernel_rfl
theorem h38 (base : Nat) : FV Tryz.prog 38 [.p (cupP threeC)] base (.tup [.p (intsP []), .p (intP 0)]) [] := by
  have := sureE_ok threeC valid_three (base := base)
  rwa [show whoM (KL.sureM threeC) threeC.sk.toNat = [] from v38] at this
def decPK (c : KL.Cup) (n : Nat) : Bool := decide (0 < (whoM (sureK (earlyC c n)) c.sk.toNat).length) && decide ((whoM (canK (earlyC c n)) c.sk.toNat).length = 1)
theorem decP_eq (c : KL.Cup) : decP c = decPK c := by
  funext n
  unfold decP decPK
  rw [sureM_eq, canM_eq]
theorem v73 : decM twoC = (3, 0, 0) := by
  unfold decM
  rw [decP_eq]
  simp only [sureM_eq]
  kernel_rfl
theorem h73 (base : Nat) : FV Tryz.prog 73 [.p (cupP twoC)] base (.tup [.p (intP 3), .p (intP 0), .p (intP 0)]) [] := by
  have := dec_ok twoC valid_two (base := base)
  rwa [v73] at this
def rivPK (c : KL.Cup) (s i : Nat) : Int := if beatK c i 0 s 0 then 61 else upto (fun p => beatK c i p s 0) 60 0
theorem rivPl_eq (c : KL.Cup) (s i : Nat) : rivPl c s i = rivPK c s i := by
  unfold rivPl rivPK
  rw [beatsM_fun]
theorem v55 : worstM threeC 1 = (3, 3, [1, 0, 2]) := by
  have e : rivG threeC 1 = fun i => if i = 1 then [] else if 0 < rivPK threeC 1 i then [[(i : Int), rivPK threeC 1 i]] else [] := by
    funext i
    unfold rivG
    rw [rivPl_eq]
  have h : ((KL.isort (ltK 1) ((List.range threeC.sk.toNat).flatMap fun i => if i = 1 then [] else if 0 < rivPK threeC 1 i then [[(i : Int), rivPK threeC 1 i]] else [])).foldl wStep (1, 1, List.replicate threeC.sk.toNat 0) : Int × Int × List Int) = (3, 3, [1, 0, 2]) := by kernel_rfl
  unfold worstM rivM rivL
  rw [e]
  exact h
theorem h55 (base : Nat) : FV Tryz.prog 55 [.p (cupP threeC), .p (intP 1)] base (.tup [.p (intP 3), .p (intsP [1, 0, 2]), .p (intP 0)]) [] := by
  have := worst_ok threeC 1 (lastE_three 1 (by omega)) (base := base)
  rw [v55] at this
  exact this
theorem awake_told (h22 : ∀ base : Nat, FV Tryz.prog 22 [.p (cupP threeC), .p (intsP [5, 5, 9]), .p (intP 1), .p (intsP [4, 3])] base (.tup [.p (.sl 2 ([[5, 1, 14, 4], [9, 2, 12, 3]].flatten.map intP)), .p (intP 0)]) []) (base : Nat) : FV Tryz.prog 19 [] base (.p (blP true)) [] :=
  awake_p0 h34 h37 h38 h55 h39 h25 h73 h56 h22 h87
end KV
end Go.Proofs
end
section
namespace Go.Proofs
open KL Go.RowKit
namespace KV
set_option maxRecDepth 100000
set_option linter.unusedVariables false

theorem totalM_bd {c : KL.Cup} (hV : KL.Valid c) (s : Nat) : 0 ≤ KL.totalM c s ∧ KL.totalM c s ≤ 20000 := by
  unfold KL.totalM
  have hl : ((KL.countedL c s).map fun i => KL.scoreAt c i.toNat s).length ≤ 20 := by
    rw [List.length_map, countedL_eq]
    have h1 : ∀ l, (KL.sortI l).length = l.length := fun l => by rw [← KL.mergeSort_eq]; exact List.length_mergeSort l
    rw [h1, List.length_take]
    have := hV.be2
    have := hV.ra2
    omega
  have hb : ∀ x ∈ ((KL.countedL c s).map fun i => KL.scoreAt c i.toNat s), 0 ≤ x ∧ x ≤ 1000 := fun x hx => by
    obtain ⟨i, _, rfl⟩ := List.mem_map.1 hx
    exact KL.scoreM_bd _ _ _ hV.pts
  have key : ∀ l : List Int, (∀ x ∈ l, 0 ≤ x ∧ x ≤ 1000) → 0 ≤ l.sum ∧ l.sum ≤ 1000 * l.length := fun l h => by
    induction l with
    | nil => simp
    | cons x r ih =>
      have h1 := h x (List.mem_cons_self ..)
      have h2 := ih fun y hy => h y (List.mem_cons_of_mem _ hy)
      rw [List.sum_cons, List.length_cons]
      omega
  have := key _ hb
  omega
theorem totalsM_len (c : KL.Cup) : (KL.totalsM c).length = c.sk.toNat := KL.totalsUp_length _ _
theorem totalsM_mem {c : KL.Cup} (hV : KL.Valid c) : ∀ x ∈ KL.totalsM c, 0 ≤ x ∧ x ≤ 20000 := fun x hx => by
  unfold KL.totalsM KL.totalsUp at hx
  obtain ⟨s, _, rfl⟩ := List.mem_map.1 hx
  exact totalM_bd hV s
theorem all_within {l : List Int} {a b : Int} (h : (l.all fun x => within x a b) = true) : ∀ x ∈ l, a ≤ x ∧ x ≤ b := fun x hx => by
  have := List.all_eq_true.1 h x hx
  exact within_iff.1 this
theorem nat_ok (c : KL.Cup) (ns : List Int) (mo : Int) (qs : List Int) (hS : KL.Small c) (hE : natE c ns mo qs = 0) {base : Nat} : FV Tryz.prog 22 [.p (cupP c), .p (intsP ns), .p (intP mo), .p (intsP qs)] base
    (.tup [.p (.sl (nationsM c ns mo qs).length ((nationsM c ns mo qs).flatten.map intP)), .p (intP 0)]) [] := by
  unfold natE at hE
  split at hE
  · exact absurd hE ‹_›
  rename_i h1
  split at hE
  · omega
  rename_i h2
  split at hE
  · omega
  rename_i h3
  split at hE
  · omega
  rename_i h4
  have h1 : KL.checkP c = 0 := Decidable.byContradiction h1
  have hV := (KL.valid_iff c).1 h1
  have a1 : (ns.length : Int) = c.sk := Decidable.byContradiction fun h => h2 (.inl h)
  have a2 : within (qs.length : Int) 1 31 = true := by
    cases h : within (qs.length : Int) 1 31
    · exact absurd (.inr h) h2
    · rfl
  have a3 : (ns.all fun x => within x 0 30) = true := by
    cases h : (ns.all fun x => within x 0 30)
    · exact absurd (.inl h) h3
    · rfl
  have a4 : within mo 1 12 = true := by
    cases h : within mo 1 12
    · exact absurd (.inr (.inl h)) h3
    · rfl
  have a5 : (qs.all fun x => within x 0 20) = true := by
    cases h : (qs.all fun x => within x 0 20)
    · exact absurd (.inr (.inr h)) h3
    · rfl
  have a6 : KL.fallsB qs = true := by
    cases h : KL.fallsB qs
    · exact absurd h h4
    · rfl
  have b2 := within_iff.1 a2
  have s2 := hV.sk2
  exact nat_p7 hS h1 a1 a2 (by unfold small; omega) a3 a4 (by unfold small; omega) a5 (by omega) a6 (nat_main hV a1 (all_within a3) (within_iff.1 a4) (by omega) (totalsM_len c) (fun x hx => by have := totalsM_mem hV x hx; omega))
theorem totals_three : KL.totalsM threeC = [14, 14, 12] := by
  have e : KL.totalsM threeC = (List.range 3).map (totK threeC) := by
    unfold KL.totalsM KL.totalsUp
    exact List.map_congr_left fun s _ => totalM_eq threeC s
  have h : (List.range 3).map (totK threeC) = [14, 14, 12] := by kernel_rfl
  exact e.trans h
theorem v22 : nationsM threeC [5, 5, 9] 1 [4, 3] = [[5, 1, 14, 4], [9, 2, 12, 3]] := by
  unfold nationsM
  have h : natL [4, 3] (outL [5, 5, 9] [14, 14, 12] 1 ([14, 14, 12] : List Int).length 31) = [[5, 1, 14, 4], [9, 2, 12, 3]] := by kernel_rfl
  rw [totals_three]
  exact h
theorem h22 (base : Nat) : FV Tryz.prog 22 [.p (cupP threeC), .p (intsP [5, 5, 9]), .p (intP 1), .p (intsP [4, 3])] base (.tup [.p (.sl 2 ([[5, 1, 14, 4], [9, 2, 12, 3]].flatten.map intP)), .p (intP 0)]) [] := by
  have hE : natE threeC [5, 5, 9] 1 [4, 3] = 0 := by
    unfold natE
    have h : (if (([5, 5, 9] : List Int).length : Int) ≠ threeC.sk ∨ within (([4, 3] : List Int).length : Int) 1 31 = false then (2 : Int) else if (([5, 5, 9] : List Int).all fun x => within x 0 30) = false ∨ within 1 1 12 = false ∨ (([4, 3] : List Int).all fun x => within x 0 20) = false then 3 else if KL.fallsB [4, 3] = false then 4 else 0) = 0 := by kernel_rfl
    rw [(KL.valid_iff threeC).2 valid_three, if_neg (by simp)]
    exact h
  have := nat_ok threeC [5, 5, 9] 1 [4, 3] valid_three.small hE (base := base)
  rw [v22] at this
  exact this
theorem awake_ok (base : Nat) : FV Tryz.prog 19 [] base (.p (blP true)) [] := awake_told h22 base
end KV
end Go.Proofs
end
section
namespace Go.Proofs
namespace KL
theorem worth_zero (pts : List Int) (p : Nat) : worthM pts p 0 = 0 := by simp [worthM]
theorem worth_snoc (pts : List Int) (p m : Nat) : worthM pts p (m + 1) = worthM pts p m + pts.getD (p - 1 + m) 0 := by
  unfold worthM
  rw [List.take_add_one, List.sum_append, List.getElem?_drop, List.getD_eq_getElem?_getD]
  cases pts[p - 1 + m]? <;> simp
theorem falls_le {pts : List Int} (h : fallsB pts = true) (h0 : ∀ x ∈ pts, 0 ≤ x) : ∀ (d a : Nat), pts.getD (a + d) 0 ≤ pts.getD a 0 := by
  have nn : ∀ a, 0 ≤ pts.getD a 0 := fun a => by
    rw [List.getD_eq_getElem?_getD]
    cases e : pts[a]? with
    | none => simp
    | some x => simpa using h0 x (List.mem_of_getElem? e)
  have hz : ∀ a, pts.length ≤ a → pts.getD a 0 = 0 := fun a ha => by rw [List.getD_eq_getElem?_getD, List.getElem?_eq_none ha]; rfl
  unfold fallsB sortedB at h
  rw [decide_eq_true_iff] at h
  intro d
  induction d with
  | zero => intro a; exact Int.le_refl _
  | succ d ih =>
    intro a
    refine Int.le_trans ?_ (ih a)
    rw [← Nat.add_assoc]
    by_cases hl : a + d + 1 < pts.length
    · have := h (a + d) (by omega)
      unfold cmpDown cmpI at this
      repeat' split at this
      all_goals omega
    · rw [hz _ (by omega)]; exact nn _
theorem worth_le {pts : List Int} {p : Nat} {v : Int} : ∀ m : Nat, (∀ t, t < m → pts.getD (p - 1 + t) 0 ≤ v) → worthM pts p m ≤ m * v
  | 0, _ => by rw [worth_zero]; simp
  | m + 1, h => by
    rw [worth_snoc]
    have h1 := worth_le m (fun t ht => h t (by omega))
    have h2 := h m (by omega)
    rw [show ((m + 1 : Nat) : Int) * v = m * v + v by rw [Int.natCast_add, Int.add_mul]; simp]
    omega
theorem worth_ge {pts : List Int} {p : Nat} {v : Int} : ∀ m : Nat, (∀ t, t < m → v ≤ pts.getD (p - 1 + t) 0) → m * v ≤ worthM pts p m
  | 0, _ => by rw [worth_zero]; simp
  | m + 1, h => by
    rw [worth_snoc]
    have h1 := worth_ge m (fun t ht => h t (by omega))
    have h2 := h m (by omega)
    rw [show ((m + 1 : Nat) : Int) * v = m * v + v by rw [Int.natCast_add, Int.add_mul]; simp]
    omega
theorem worth_mono {pts : List Int} (h : fallsB pts = true) (h0 : ∀ x ∈ pts, 0 ≤ x) {p q k m : Nat} (hp : 1 ≤ p) (hk : 1 ≤ k) (hm : 1 ≤ m) (hpq : p + k ≤ q) : worthM pts q m / (m : Int) ≤ worthM pts p k / (k : Int) := by
  have h1 := worth_le (pts := pts) (p := q) (v := pts.getD (q - 1) 0) m (fun t _ => falls_le h h0 t (q - 1))
  have h2 := worth_ge (pts := pts) (p := p) (v := pts.getD (q - 1) 0) k (fun t ht => by
    have := falls_le h h0 (q - 1 - (p - 1 + t)) (p - 1 + t)
    rwa [show p - 1 + t + (q - 1 - (p - 1 + t)) = q - 1 by omega] at this)
  have h3 : worthM pts q m / (m : Int) ≤ pts.getD (q - 1) 0 := by
    have := Int.ediv_le_ediv (c := (m : Int)) (by omega) h1
    rwa [Int.mul_ediv_cancel_left _ (by omega)] at this
  have h4 : pts.getD (q - 1) 0 ≤ worthM pts p k / (k : Int) := by
    have := Int.ediv_le_ediv (c := (k : Int)) (by omega) h2
    rwa [Int.mul_ediv_cancel_left _ (by omega)] at this
  omega
theorem score_mono {c : Cup} (hV : Valid c) {race : List Int} (hr : race ∈ c.done) (hn : NoClash race) {i j : Nat} (hi : i < race.length) (hj : j < race.length) (h0 : race.getD i 0 ≠ 0) (hlt : race.getD i 0 < race.getD j 0) : scoreM c.pts race j ≤ scoreM c.pts race i := by
  have mi : race.getD i 0 ∈ race := by rw [List.getD_eq_getElem?_getD, List.getElem?_eq_getElem hi]; exact List.getElem_mem _
  have mj : race.getD j 0 ∈ race := by rw [List.getD_eq_getElem?_getD, List.getElem?_eq_getElem hj]; exact List.getElem_mem _
  have bi := hV.rows race hr _ mi
  obtain ⟨_, h2⟩ := hn _ mi h0
  have h3 := h2 _ mj hlt
  have ci := count_pos' mi
  have cj := count_pos' mj
  unfold scoreM
  rw [if_neg h0, if_neg (by omega)]
  exact worth_mono hV.falls (fun x hx => (hV.pts x hx).1) (by omega) ci cj (by omega)
end KL
end Go.Proofs
end
section
namespace Go.Proofs
namespace KV
open KL
theorem wrthM_at (c : KL.Cup) {p : Nat} {m : Nat} (hp : 1 ≤ p) : wrthM c ((p : Int) + m) = c.pts.getD (p - 1 + m) 0 := by
  unfold wrthM
  rw [if_neg (by omega)]
  by_cases h : (c.pts.length : Int) < (p : Int) + m
  · rw [if_pos h, List.getD_eq_getElem?_getD, List.getElem?_eq_none (by omega)]; rfl
  · rw [if_neg h, show ((p : Int) + m - 1).toNat = p - 1 + m by omega]
theorem scoreL_at (c : KL.Cup) (r : List Int) {j : Nat} (hj : (j : Int) < c.sk) : (scoreL c r)[j]? = some (KL.scoreM c.pts r j) := by
  unfold scoreL
  rw [List.getElem?_map, List.getElem?_range (by omega)]; rfl

abbrev shF (c : KL.Cup) (r : List Int) (p q : Int) (a : Int × Int × Int) (j : Nat) : Int × Int × Int := if r.getD j 0 = p then (a.1 + q, a.2.1 + wrthM c (p + a.2.2), a.2.2 + 1) else a

theorem range_inv {β : Type} (f : β → Nat → β) (Inv : Nat → β → Prop) (a0 : β) (h0 : Inv 0 a0) : ∀ n : Nat, (∀ j a, j < n → Inv j a → Inv (j + 1) (f a j)) → Inv n ((List.range n).foldl f a0)
  | 0, _ => h0
  | n + 1, h => by
    rw [List.range_succ, List.foldl_append]
    exact h n _ (by omega) (range_inv f Inv a0 h0 n (fun j a hj => h j a (by omega)))
theorem shared_in {w : Int} {c : KL.Cup} {r : List Int} (hV : KL.Valid c) (hr : r ∈ c.done) (hg : c.done.getD (w.tmod ((c.done.length : Nat) : Int)).toNat [] = r) {i : Nat} (hi : i < r.length) (h0 : r.getD i 0 ≠ 0) :
    ∃ tg al mn : Int, LoopOK Tryz.prog 0 (sub (cd Tryz.f5) [1, 1, 1, 1, 1, 1, 1, 0, 1, 0, 0, 1, 1, 0, 0, 1, 1, 1, 0, 1, 0, 0]) (shared_S1 w c r i (r.getD i 0) 0 0 0 0) (.exit 2) (shared_S1 w c r i (r.getD i 0) r.length tg al mn) ∧ tg = mn * KL.scoreM c.pts r i ∧ al = KL.worthM c.pts (r.getD i 0).toNat mn.toNat ∧ mn = (r.count (r.getD i 0) : Nat) := by
  have hsk1 := hV.sk1
  have hsk2 := hV.sk2
  have hlen := hV.len r hr
  have hn : KL.NoClash r := (KL.clash_iff r (fun x hx => (hV.rows r hr x hx).1)).1 (by
    have := List.any_eq_false.1 hV.clash r hr
    simpa using this)
  have rat : ∀ j, j < r.length → r[j]? = some (r.getD j 0) := fun j hj => by
    rw [List.getElem?_eq_getElem hj, List.getD_eq_getElem?_getD, List.getElem?_eq_getElem hj]; rfl
  have hbd : ∀ j, j < r.length → 0 ≤ r.getD j 0 ∧ r.getD j 0 ≤ 60 := fun j hj => hV.rows r hr _ (List.mem_of_getElem? (rat j hj))
  obtain ⟨p, hp⟩ : ∃ p : Nat, r.getD i 0 = p := ⟨(r.getD i 0).toNat, by have := hbd i hi; omega⟩
  have hpi := hbd i hi
  have sat : ∀ j, j < r.length → (scoreL c (c.done.getD (w.tmod ((c.done.length : Nat) : Int)).toNat []))[j]? = some (KL.scoreM c.pts r j) := fun j hj => by rw [hg]; exact scoreL_at c r (by omega)
  have hW : ∀ m : Nat, 0 ≤ KL.worthM c.pts p m ∧ KL.worthM c.pts p m ≤ 1000 * m := fun m => KL.worthM_bd c.pts p m hV.pts
  obtain ⟨q, hq⟩ : ∃ q, q = KL.scoreM c.pts r i := ⟨_, rfl⟩
  have hqb : 0 ≤ q ∧ q ≤ 12000 := by
    rw [hq]
    unfold KL.scoreM
    rw [if_neg h0, hp]
    have hc : 1 ≤ r.count (p : Int) := KL.count_pos' (by rw [← hp]; exact List.mem_of_getElem? (rat i hi))
    have hc2 : r.count (p : Int) ≤ r.length := List.count_le_length
    have := hW (r.count (p : Int))
    rw [Int.toNat_natCast]
    refine ⟨Int.ediv_nonneg this.1 (by omega), ?_⟩
    have h5 := Int.ediv_le_self (r.count (p : Int) : Int) this.1
    omega
  obtain ⟨Inv, hIv⟩ : ∃ Inv : Nat → Int × Int × Int → Prop, Inv = fun (j : Nat) (a : Int × Int × Int) => j ≤ r.length ∧ a.2.2 = (((r.take j).count (p : Int) : Nat) : Int) ∧ a.1 = a.2.2 * q ∧ a.2.1 = KL.worthM c.pts p ((r.take j).count (p : Int)) := ⟨_, rfl⟩
  have key : ∀ (j : Nat) (a : Int × Int × Int), j < r.length → Inv j a → Inv (j + 1) (shF c r p q a j) ∧ CodeOK Tryz.prog 0 (sub (cd Tryz.f5) [1, 1, 1, 1, 1, 1, 1, 0, 1, 0, 0, 1, 1, 0, 0, 1, 1, 1, 0, 1, 0, 0]) (shared_S1 w c r i (p : Int) j a.1 a.2.1 a.2.2) .normal (shared_S1 w c r i (p : Int) (j + 1) (shF c r p q a j).1 (shF c r p q a j).2.1 (shF c r p q a j).2.2) := fun j a hj hI => by
    rw [hIv] at hI ⊢
    obtain ⟨_, e1, e2, e3⟩ := hI
    obtain ⟨tg, al, mn⟩ := a
    dsimp only at e1 e2 e3
    have hcs := KL.count_snoc r (p : Int) j hj
    have hge : r[j] = r.getD j 0 := by rw [List.getD_eq_getElem?_getD, List.getElem?_eq_getElem hj]; rfl
    rw [hge] at hcs
    have hle : (r.take j).count (p : Int) ≤ j := Nat.le_trans List.count_le_length (List.length_take_le _ _)
    have hwm := hW ((r.take j).count (p : Int))
    have hmq : 0 ≤ mn * q ∧ mn * q ≤ 12 * 12000 := ⟨Int.mul_nonneg (by omega) hqb.1, Int.mul_le_mul (by omega) hqb.2 hqb.1 (by omega)⟩
    unfold shF
    by_cases he : r.getD j 0 = (p : Int)
    · rw [if_pos he] at hcs ⊢
      have hwa : wrthM c ((p : Int) + mn) = c.pts.getD (p - 1 + (r.take j).count (p : Int)) 0 := by rw [e1]; exact wrthM_at c (by omega)
      have hws := KL.worth_snoc c.pts p ((r.take j).count (p : Int))
      have hw2 := hW ((r.take j).count (p : Int) + 1)
      have hsj : KL.scoreM c.pts r j = q := by rw [hq]; unfold KL.scoreM; rw [he, hp]
      refine ⟨⟨by omega, by dsimp only; rw [hcs]; omega, by dsimp only; rw [e2, Int.add_mul]; omega, by dsimp only; rw [hcs, hws, hwa, e3]⟩, ?_⟩
      exact shared_L1_p3 (tg := tg) (al := al) (mn := mn) (by omega) (rat j hj) he (by unfold inR; omega) (by omega) (by unfold inR; rw [hwa, e3]; omega) (sat j hj) (by unfold inR; rw [hsj]; omega) (by unfold inR; omega) (sat i hi) (by rw [hsj, hq]) (by omega) (inR_nat (by omega)) rfl (by rw [hsj]) rfl rfl
    · rw [if_neg he] at hcs ⊢
      refine ⟨⟨by omega, by dsimp only; rw [hcs]; omega, by dsimp only; exact e2, by dsimp only; rw [hcs, Nat.add_zero]; exact e3⟩, ?_⟩
      by_cases hgt : (p : Int) < r.getD j 0
      · refine shared_L1_p5 (by omega) (rat j hj) he hgt (sat j hj) (sat i hi) ?_ (inR_nat (by omega)) rfl
        exact KL.score_mono hV hr hn hi hj h0 (by omega)
      · exact shared_L1_p6 (by omega) (rat j hj) he (by omega) (inR_nat (by omega)) rfl
  have hI0 : Inv 0 (0, 0, 0) := by rw [hIv]; simp [KL.worth_zero]
  have hL := LoopOK.times (P := Tryz.prog) (k := 0) (b := sub (cd Tryz.f5) [1, 1, 1, 1, 1, 1, 1, 0, 1, 0, 0, 1, 1, 0, 0, 1, 1, 1, 0, 1, 0, 0]) (e := .exit 2) (fun j (a : Int × Int × Int) => shared_S1 w c r i (p : Int) j a.1 a.2.1 a.2.2) (fun a => shared_S1 w c r i (p : Int) r.length a.1 a.2.1 a.2.2) (shF c r p q) Inv (by simp) r.length (a0 := (0, 0, 0)) hI0 key (fun a _ => shared_L1_p7 (by omega))
  have hF := range_inv (shF c r p q) Inv (0, 0, 0) hI0 r.length (fun j a hj hI => (key j a hj hI).1)
  rw [hIv] at hF
  rw [List.take_length] at hF
  obtain ⟨_, f1, f2, f3⟩ := hF
  rw [hp]
  refine ⟨_, _, _, hL, by rw [f2, hq], ?_, f1⟩
  rw [f3, f1, Int.toNat_natCast, Int.toNat_natCast]
theorem shared_ok (hA : ∀ base : Nat, FV Tryz.prog 19 [] base (.p (blP true)) []) (l : List Int) (w : Int) (hw : 0 ≤ w ∧ w ≤ 255) {base : Nat} : FV Tryz.prog 5 [.p (.sl l.length (l.map byteP)), .p (.v (.int .u8 w))] base (.p (blP true)) [] := by
  have hsp := madeM_spec 10 8 l 0 17 (by omega) (by omega) (by omega)
  obtain ⟨⟨c, m, t⟩, e⟩ : ∃ q, q = madeM 10 8 l 0 17 := ⟨_, rfl⟩
  rw [← e] at hsp
  obtain ⟨_, hV, _⟩ := hsp
  dsimp only at hV
  have h2 := hV.sk2
  have h1 := hV.sk1
  have h3 := hV.ra2
  have h4 := hV.dn
  by_cases hd : c.done.length = 0
  · exact shared_p0 (by omega) (by omega) (by omega) e.symm (by omega) hV (by omega) rfl hA
  · have hk : 0 ≤ w.tmod ((c.done.length : Nat) : Int) ∧ w.tmod ((c.done.length : Nat) : Int) < ((c.done.length : Nat) : Int) := ⟨Int.tmod_nonneg _ hw.1, Int.tmod_lt_of_pos _ (by omega)⟩
    obtain ⟨r, hr⟩ : ∃ r, r = c.done.getD (w.tmod ((c.done.length : Nat) : Int)).toNat [] := ⟨_, rfl⟩
    have hat : c.done[(w.tmod ((c.done.length : Nat) : Int)).toNat]? = some r := by
      rw [hr, List.getD_eq_getElem?_getD, List.getElem?_eq_getElem (by omega)]; rfl
    have hm : r ∈ c.done := List.mem_of_getElem? hat
    have hlen := hV.len r hm
    have rat : ∀ j, j < r.length → r[j]? = some (r.getD j 0) := fun j hj => by
      rw [List.getElem?_eq_getElem hj, List.getD_eq_getElem?_getD, List.getElem?_eq_getElem hj]; rfl
    have hL := LoopOK.times (P := Tryz.prog) (k := 0) (b := sub (cd Tryz.f5) [1, 1, 1, 1, 1, 1, 1, 0, 1, 0, 0]) (e := .exit 0) (fun i (_ : Unit) => shared_S0 w c r i) (fun _ => shared_S0 w c r r.length) (fun a _ => a) (fun _ _ => True) (by simp) r.length (a0 := ()) trivial
      (fun i a hi _ => ⟨trivial, by
        have sat : (scoreL c (c.done.getD (w.tmod ((c.done.length : Nat) : Int)).toNat []))[i]? = some (KL.scoreM c.pts r i) := by rw [← hr]; exact scoreL_at c r (by omega)
        by_cases h0 : r.getD i 0 = 0
        · refine shared_L0_p1 (by omega) (rat i hi) h0 sat ?_ (inR_nat (by omega)) rfl
          unfold KL.scoreM; rw [if_pos h0]
        · obtain ⟨tg, al, mn, q1, q2, q3, q4⟩ := shared_in hV hm hr.symm hi h0
          have hc : 1 ≤ r.count (r.getD i 0) := KL.count_pos' (List.mem_of_getElem? (rat i hi))
          have hc2 : r.count (r.getD i 0) ≤ r.length := List.count_le_length
          have hb := KL.worthM_bd c.pts (r.getD i 0).toNat (r.count (r.getD i 0)) hV.pts
          have hs : KL.scoreM c.pts r i = al / mn := by
            unfold KL.scoreM
            rw [if_neg h0, q3, q4, Int.toNat_natCast]
          have hal : al = KL.worthM c.pts (r.getD i 0).toNat (r.count (r.getD i 0)) := by rw [q3, q4, Int.toNat_natCast]
          rw [hs] at q2
          have f1 : mn * (al / mn) ≤ al := Int.mul_ediv_self_le (by omega)
          have f2 : al < mn * (al / mn) + mn := Int.lt_mul_ediv_self_add (by omega)
          exact shared_L0_p4 (by omega) (rat i hi) h0 q1 (by omega) (by unfold inR; omega) (by omega) (inR_nat (by omega)) rfl⟩)
      (fun _ _ => shared_L0_p5 (by omega))
    refine shared_p4 (by omega) (by omega) (by omega) e.symm (by omega) (by unfold inR; omega) (by omega) hat hk.1 hV hk rfl ?_ hL hA
    have : (scoreL c (c.done.getD (w.tmod ((c.done.length : Nat) : Int)).toNat [])).length = c.sk.toNat := by simp [scoreL]
    omega
end KV
end Go.Proofs
end
