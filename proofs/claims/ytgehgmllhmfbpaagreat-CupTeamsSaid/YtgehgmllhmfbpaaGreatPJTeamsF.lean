/- Parts of the proof of JTeams: laws of walks, contracts of functions, plain models. No condition. -/
import Derived.Test.YtgehgmllhmfbpaaGreatPJTeamsE
set_option linter.unusedVariables false
set_option linter.unusedSimpArgs false
section
namespace Go.Proofs
open KL Go.RowKit
namespace KV
set_option maxRecDepth 100000
set_option linter.unusedVariables false

theorem best_nn {l : List Int} (h : ∀ x ∈ l, 0 ≤ x) (mo : Int) : 0 ≤ bestS mo l := by
  unfold bestS
  exact sum_nonneg fun x hx => h x (downI_mem.1 (List.mem_of_mem_take hx))
theorem grp_at {ns ts : List Int} {s N : Nat} {k x : Int} (hk : ns[s]? = some k) (hx : ts[s]? = some x) (hs : s < N) : x ∈ grp ns ts k N := by
  unfold grp
  refine List.mem_filterMap.2 ⟨(k, x), List.mem_of_getElem? (i := s) ?_, by simp⟩
  rw [List.getElem?_take, if_pos hs]
  exact List.getElem?_zip_eq_some.2 ⟨hk, hx⟩
theorem grp_alone {ns ts : List Int} {s : Nat} {k x : Int} (hl : ns.length = ts.length) (hk : ns[s]? = some k) (hx : ts[s]? = some x) (ha : ∀ j, j < ts.length → j ≠ s → ns.getD j 0 ≠ k) : ∀ i, i ≤ ts.length → grp ns ts k i = if s < i then [x] else []
  | 0, _ => by rw [grp_zero, if_neg (by omega)]
  | i + 1, hi => by
    have hki : ns[i]? = some (ns.getD i 0) := by rw [List.getElem?_eq_getElem (by omega), List.getD_eq_getElem?_getD, List.getElem?_eq_getElem (by omega)]; rfl
    have hxi : ts[i]? = some (ts.getD i 0) := by rw [List.getElem?_eq_getElem (by omega), List.getD_eq_getElem?_getD, List.getElem?_eq_getElem (by omega)]; rfl
    rw [grp_succ hki hxi, grp_alone hl hk hx ha i (by omega)]
    by_cases e : i = s
    · subst e
      rw [hk] at hki
      rw [hx] at hxi
      have e1 := Option.some.inj hki
      have e2 := Option.some.inj hxi
      rw [← e1, ← e2, if_neg (by omega), if_pos rfl, if_pos (by omega)]; rfl
    · rw [if_neg (ha i (by omega) e), List.append_nil]
      by_cases h : s < i
      · rw [if_pos h, if_pos (by omega)]
      · rw [if_neg h, if_neg (by omega)]

theorem natE_zero {c : KL.Cup} {ns : List Int} {mo : Int} {qs : List Int} (hV : KL.Valid c) (hl : (ns.length : Int) = c.sk) (hn : ∀ x ∈ ns, 0 ≤ x ∧ x ≤ 30) (hm : 1 ≤ mo ∧ mo ≤ 12) (hq : 1 ≤ qs.length ∧ qs.length ≤ 31) (hqb : ∀ x ∈ qs, 0 ≤ x ∧ x ≤ 20) (hf : qs.Pairwise (fun a b => b ≤ a)) : natE c ns mo qs = 0 := by
  have h1 := (KL.valid_iff c).2 hV
  have h2 : within (qs.length : Int) 1 31 = true := within_iff.2 (by omega)
  have h3 : (ns.all fun x => within x 0 30) = true := List.all_eq_true.2 fun x hx => within_iff.2 (hn x hx)
  have h4 : within mo 1 12 = true := within_iff.2 hm
  have h5 : (qs.all fun x => within x 0 20) = true := List.all_eq_true.2 fun x hx => within_iff.2 (hqb x hx)
  unfold natE
  rw [if_neg (by rw [h1]; simp), if_neg (by rw [h2]; simp [hl]), if_neg (by rw [h3, h4, h5]; simp), if_neg (by rw [falls_of hf]; simp)]

structure NaInv (i : Nat) (na : List Int) : Prop where
  len : na.length = i
  bd : ∀ x ∈ na, 0 ≤ x ∧ x ≤ 30
theorem tms_na {g : List Int} {w : Int} {c : KL.Cup} (hc : c.sk ≤ 12) : ∀ (k i : Nat) (na : List Int) (mx tt : Int), (i : Int) + k = c.sk → NaInv i na → 0 ≤ mx → mx + k ≤ 1000000000 →
    ∃ (na' : List Int) (mx' tt' : Int), LoopOK Tryz.prog 0 (sub (cd Tryz.f4) [1, 1, 1, 1, 1, 0, 1, 0, 0]) (tms_S0 g w c i na.length (na.map intP) mx tt) (.exit 0) (tms_S0 g w c (i + k) na'.length (na'.map intP) mx' tt') ∧ NaInv (i + k) na' ∧ mx ≤ mx' ∧ mx' ≤ mx + k
  | 0, i, na, mx, tt, hk, h, h0, h1 => ⟨na, mx, tt, .exit (tms_L0_p1 (by omega)) (by simp), h, by omega, by omega⟩
  | k + 1, i, na, mx, tt, hk, h, h0, h1 => by
    have hb := drawM_bd 5 g mx tt
    have hl := h.len
    have c1 := tms_L0_p0 (w := w) (c0 := c) (i := i) (na := na) (na' := na ++ [(drawM 5 g mx tt).1]) (by omega) ⟨h0, by omega⟩ (show drawM 5 g mx tt = ((drawM 5 g mx tt).1, (drawM 5 g mx tt).2.1, (drawM 5 g mx tt).2.2) from rfl) (by simp; omega) (inR_nat (by omega)) rfl (by simp) (by simp)
    have i1 : NaInv (i + 1) (na ++ [(drawM 5 g mx tt).1]) := ⟨by simp [hl], fun x hx => by
      rcases List.mem_append.1 hx with hx | hx
      · exact h.bd x hx
      · simp at hx; omega⟩
    obtain ⟨na2, m2, t2, c2, i2, b1, b2⟩ := tms_na hc k (i + 1) (na ++ [(drawM 5 g mx tt).1]) (drawM 5 g mx tt).2.1 (drawM 5 g mx tt).2.2 (by omega) i1 (by omega) (by omega)
    rw [show i + 1 + k = i + (k + 1) by omega] at c2 i2
    exact ⟨na2, m2, t2, .step c1 c2, i2, by omega, by omega⟩
structure QsInv (i : Nat) (qs : List Int) (pa : Int) : Prop where
  len : qs.length = i
  pa1 : 0 ≤ pa ∧ pa ≤ 20
  bd : ∀ x ∈ qs, pa ≤ x ∧ x ≤ 20
  pw : qs.Pairwise (fun a b => b ≤ a)
theorem QsInv.next {i : Nat} {qs : List Int} {pa pa' : Int} (h : QsInv i qs pa) (h1 : 0 ≤ pa') (h2 : pa' ≤ pa) : QsInv (i + 1) (qs ++ [pa]) pa' := by
  have := h.pa1
  refine ⟨by simp [h.len], ⟨h1, by omega⟩, fun x hx => ?_, List.pairwise_append.2 ⟨h.pw, by simp, fun a ha b hb => ?_⟩⟩
  · rcases List.mem_append.1 hx with hx | hx
    · have := h.bd x hx; omega
    · simp at hx; omega
  · simp at hb; subst hb; exact (h.bd a ha).1
theorem tms_qs {g : List Int} {w : Int} {c : KL.Cup} {na : List Int} {r10 : Int} (hr : r10 ≤ 100) : ∀ (k i : Nat) (qs : List Int) (pa mx tt : Int), (i : Int) + k = r10 → QsInv i qs pa → 0 ≤ mx → mx + k ≤ 1000000000 →
    ∃ (qs' : List Int) (pa' mx' tt' : Int), LoopOK Tryz.prog 0 (sub (cd Tryz.f4) [1, 1, 1, 1, 1, 1, 1, 0, 1, 0, 0]) (tms_S1 g w c na r10 i qs.length (qs.map intP) pa mx tt) (.exit 2) (tms_S1 g w c na r10 (i + k) qs'.length (qs'.map intP) pa' mx' tt') ∧ QsInv (i + k) qs' pa' ∧ mx ≤ mx' ∧ mx' ≤ mx + k
  | 0, i, qs, pa, mx, tt, hk, h, h0, h1 => ⟨qs, pa, mx, tt, .exit (tms_L1_p1 (by omega)) (by simp), h, by omega, by omega⟩
  | k + 1, i, qs, pa, mx, tt, hk, h, h0, h1 => by
    have hb := drawM_bd 3 g mx tt
    have hpa := h.pa1
    have hl := h.len
    have c1 := tms_L1_p0 (w := w) (c0 := c) (na'4 := na) (r10 := r10) (j := i) (qs := qs) (pa := pa) (qs' := qs ++ [pa]) (by omega) (by simp; omega) ⟨h0, by omega⟩ (show drawM 3 g mx tt = ((drawM 3 g mx tt).1, (drawM 3 g mx tt).2.1, (drawM 3 g mx tt).2.2) from rfl) (by unfold inR; omega) (inR_nat (by omega)) rfl (by simp) (by simp) rfl
    have i1 : QsInv (i + 1) (qs ++ [pa]) (if pa - (drawM 3 g mx tt).1 > 0 then pa - (drawM 3 g mx tt).1 else 0) := h.next (by split <;> omega) (by split <;> omega)
    obtain ⟨qs2, pa2, m2, t2, c2, i2, b1, b2⟩ := tms_qs hr k (i + 1) (qs ++ [pa]) _ (drawM 3 g mx tt).2.1 (drawM 3 g mx tt).2.2 (by omega) i1 (by omega) (by omega)
    rw [show i + 1 + k = i + (k + 1) by omega] at c2 i2
    exact ⟨qs2, pa2, m2, t2, .step c1 c2, i2, by omega, by omega⟩

def alo (ns : List Int) (s : Nat) (k : Nat) : Bool := (List.range k).all fun j => j == s || ns.getD j 0 != ns.getD s 0
theorem alo_succ (ns : List Int) (s k : Nat) : alo ns s (k + 1) = (alo ns s k && (k == s || ns.getD k 0 != ns.getD s 0)) := by
  unfold alo
  rw [List.range_succ, List.all_append]
  simp
theorem tms_alone {c : KL.Cup} {na : List Int} {r18 r19 r20 : List (List Int)} {s : Nat} {sm x300 x301 y302 y303 y304 y305 y306 y307 y308 y309 : Int} (hs : s < na.length) (hn : na.length ≤ 1000) :
    LoopOK Tryz.prog 0 (sub (cd Tryz.f4) [1, 1, 1, 1, 1, 1, 1, 1, 1, 1, 1, 1, 1, 1, 1, 0, 1, 0, 0, 1, 1, 0, 0, 1, 1, 1, 1, 1, 0, 1, 0, 0]) (tms_S3 c na r18 r19 r20 s sm x300 x301 y302 y303 y304 y305 y306 y307 y308 y309 0 true) (.exit 6) (tms_S3 c na r18 r19 r20 s sm x300 x301 y302 y303 y304 y305 y306 y307 y308 y309 na.length (alo na s na.length)) := by
  have nat : ∀ j, j < na.length → na[j]? = some (na.getD j 0) := fun j hj => by rw [List.getElem?_eq_getElem hj, List.getD_eq_getElem?_getD, List.getElem?_eq_getElem hj]; rfl
  refine LoopOK.count na.length (fun k => tms_S3 c na r18 r19 r20 s sm x300 x301 y302 y303 y304 y305 y306 y307 y308 y309 k (alo na s k)) (fun k hk => ?_) (tms_L3_p3 (by omega)) (by simp)
  rw [alo_succ]
  cases ha : alo na s k with
  | false => exact tms_L3_p2 (by omega) (nat k hk) rfl (inR_nat (by omega)) rfl
  | true =>
    by_cases e : k = s
    · rw [show (true && (k == s || na.getD k 0 != na.getD s 0)) = true by simp [e]]
      exact tms_L3_p0 (by omega) (nat k hk) rfl (by omega) (inR_nat (by omega)) rfl
    · exact tms_L3_p1 (by omega) (nat k hk) rfl (by omega) (nat s hs) (inR_nat (by omega)) rfl (by simp [e])
theorem tms_each {c : KL.Cup} {na qs : List Int} {mo : Int} {r20 : List (List Int)} (hV : KL.Valid c) (hl : (na.length : Int) = c.sk) (hb : ∀ x ∈ na, 0 ≤ x ∧ x ≤ 30) (hmo : 1 ≤ mo) :
    LoopOK Tryz.prog 0 (sub (cd Tryz.f4) [1, 1, 1, 1, 1, 1, 1, 1, 1, 1, 1, 1, 1, 1, 1, 0, 1, 0, 0]) (tms_S2 c na (nationsM c na mo qs) (nationsM c na (mo + 1) qs) r20 0 0) (.exit 4) (tms_S2 c na (nationsM c na mo qs) (nationsM c na (mo + 1) qs) r20 (KL.totalsM c).length (KL.totalsM c).sum) := by
  have s1 := hV.sk1
  have s2 := hV.sk2
  have htl : (KL.totalsM c).length = c.sk.toNat := totalsM_len c
  have htb := totalsM_mem hV
  obtain ⟨ts, hts⟩ : ∃ ts, ts = KL.totalsM c := ⟨_, rfl⟩
  have hsum : ∀ j, 0 ≤ (ts.take j).sum ∧ (ts.take j).sum ≤ 1000000 * 12 := fun j => by
    have := sum_bd (l := ts.take j) fun x hx => by
      have := htb x (by rw [← hts]; exact List.mem_of_mem_take hx)
      omega
    have h2 : (ts.take j).length ≤ 12 := by rw [List.length_take, hts]; omega
    omega
  have := LoopOK.count (P := Tryz.prog) (k := 0) (b := sub (cd Tryz.f4) [1, 1, 1, 1, 1, 1, 1, 1, 1, 1, 1, 1, 1, 1, 1, 0, 1, 0, 0]) (e := .exit 4) (R := tms_S2 c na (nationsM c na mo qs) (nationsM c na (mo + 1) qs) r20 ts.length ts.sum) ts.length (fun s => tms_S2 c na (nationsM c na mo qs) (nationsM c na (mo + 1) qs) r20 s (ts.take s).sum) (fun s hs => ?_) (by rw [List.take_length]; exact tms_L2_p6 (by rw [hts]; omega)) (by simp)
  · rw [← hts]; exact this
  · have hx : ts[s]? = some (ts.getD s 0) := by rw [List.getElem?_eq_getElem hs, List.getD_eq_getElem?_getD, List.getElem?_eq_getElem hs]; rfl
    have hsn : s < na.length := by rw [hts] at hs; omega
    have hk : na[s]? = some (na.getD s 0) := by rw [List.getElem?_eq_getElem hsn, List.getD_eq_getElem?_getD, List.getElem?_eq_getElem hsn]; rfl
    obtain ⟨x, ex⟩ : ∃ x, x = ts.getD s 0 := ⟨_, rfl⟩
    obtain ⟨k, ek⟩ : ∃ k, k = na.getD s 0 := ⟨_, rfl⟩
    rw [← ex] at hx
    have hkb := hb k (List.mem_of_getElem? (by rw [hk, ek]))
    rw [← ek] at hk
    have hm := grp_at (N := ts.length) hk hx hs
    have hne : grp na ts k ts.length ≠ [] := fun h => by rw [h] at hm; simp at hm
    have hnn : ∀ y ∈ grp na ts k ts.length, 0 ≤ y := fun y hy => (htb y (by rw [← hts]; exact grp_mem hy)).1
    obtain ⟨g, hg⟩ : ∃ g : Nat, k = g := ⟨k.toNat, by omega⟩
    rw [hg] at hm hne hnn
    have q1 : ∀ m, ofM (nationsM c na m qs) k = [(g : Int), rkOf (natP na ts m ts.length) (bestS m (grp na ts g ts.length)) (natP na ts m ts.length).length, bestS m (grp na ts g ts.length), qtOf qs (rkOf (natP na ts m ts.length) (bestS m (grp na ts g ts.length)) (natP na ts m ts.length).length)] := fun m => by
      have := natR_of (mo := m) (qs := qs) (g := g) (by omega) hne
      rw [hg, ← this]
      unfold nationsM natR
      rw [← hts]
    have q2 : ∀ m, uni 4 (nationsM c na m qs) := fun m => natR_uni (ns := na) (ts := KL.totalsM c) (mo := m) (qs := qs) (N := (KL.totalsM c).length)
    have q3 : ∀ m, (nationsM c na m qs).length ≤ 1000 := fun m => by
      have h1 := natR_len (ns := na) (ts := KL.totalsM c) (mo := m) (qs := qs) (N := (KL.totalsM c).length)
      have h2 := outL_len na (KL.totalsM c) m (KL.totalsM c).length 31
      have h3 : (nationsM c na m qs).length = (natR na (KL.totalsM c) m qs (KL.totalsM c).length).length := rfl
      omega
    have q4 := rkOf_bd (natP na ts mo ts.length) (bestS mo (grp na ts g ts.length)) (natP na ts mo ts.length).length
    have q5 := best_le hnn hmo hm
    have q6 := best_mono hnn (show mo ≤ mo + 1 by omega)
    have q7 := hsum s
    have q8 := hsum (s + 1)
    have q9 : (ts.take (s + 1)).sum = (ts.take s).sum + x := by rw [List.take_add_one, hx, List.sum_append]; simp
    have hx' : (KL.totalsM c)[s]? = some x := by rw [← hts]; exact hx
    have lo : (s : Int) < (((KL.totalsM c).length : Nat) : Int) := by rw [← hts]; omega
    cases ha : alo na s na.length with
    | false => exact tms_L2_p5 lo hx' (by unfold inR; omega) hk (q2 _) (q3 _) (q1 mo) q4.1 q5 (q2 _) (q3 _) (q1 (mo + 1)) q6 (tms_alone hsn (by omega)) ha (inR_nat (by omega)) rfl q9
    | true =>
      refine tms_L2_p4 lo hx' (by unfold inR; omega) hk (q2 _) (q3 _) (q1 mo) q4.1 q5 (q2 _) (q3 _) (q1 (mo + 1)) q6 (tms_alone hsn (by omega)) ha ?_ (inR_nat (by omega)) rfl q9
      have hal : ∀ j, j < ts.length → j ≠ s → na.getD j 0 ≠ k := fun j hj hjs => by
        have := List.all_eq_true.1 ha j (List.mem_range.2 (by rw [hts] at hj; omega))
        rw [← ek] at this
        simpa [hjs] using this
      have hll : na.length = ts.length := by rw [hts]; omega
      have := grp_alone hll hk hx hal ts.length (Nat.le_refl _)
      rw [if_pos hs, hg] at this
      rw [this]
      exact best_one hmo

theorem nat_row {c : KL.Cup} {na qs : List Int} {mo : Int} {u : Nat} (hu : u < (nationsM c na mo qs).length) : ∃ a b : Int, (nationsM c na mo qs)[u]? = some [a, rkOf (natP na (KL.totalsM c) mo (KL.totalsM c).length) b (natP na (KL.totalsM c) mo (KL.totalsM c).length).length, b, qtOf qs (rkOf (natP na (KL.totalsM c) mo (KL.totalsM c).length) b (natP na (KL.totalsM c) mo (KL.totalsM c).length).length)] ∧ b ∈ natP na (KL.totalsM c) mo (KL.totalsM c).length := by
  have hm : (nationsM c na mo qs)[u] ∈ natR na (KL.totalsM c) mo qs (KL.totalsM c).length := List.getElem_mem hu
  obtain ⟨g, h1, h2, h3⟩ := natR_mem.1 hm
  exact ⟨g, _, by rw [List.getElem?_eq_getElem hu, h3], natP_mem.2 ⟨g, h1, h2, rfl⟩⟩
theorem tms_pairs {c : KL.Cup} {na qs : List Int} {mo : Int} {sm : Int} (hV : KL.Valid c) (hl : (na.length : Int) = c.sk) (hb : ∀ x ∈ na, 0 ≤ x ∧ x ≤ 30) (hf : qs.Pairwise (fun a b => b ≤ a)) (h0 : ∀ x ∈ qs, 0 ≤ x) (hle : (nationsM c na mo qs).length = (nationsM c na 12 qs).length) :
    LoopOK Tryz.prog 0 (sub (cd Tryz.f4) [1, 1, 1, 1, 1, 1, 1, 1, 1, 1, 1, 1, 1, 1, 1, 1, 0, 1, 0, 0]) (tms_S4 (nationsM c na mo qs) (nationsM c na 12 qs) sm 0 0) (.exit 8) (tms_S4 (nationsM c na mo qs) (nationsM c na 12 qs) sm (nationsM c na mo qs).length (KL.totalsM c).sum) := by
  have s1 := hV.sk1
  have s2 := hV.sk2
  have htl : (KL.totalsM c).length = c.sk.toNat := totalsM_len c
  have htb := totalsM_mem hV
  have hsum : ((nationsM c na 12 qs).map fun x => x.getD 2 0).sum = (KL.totalsM c).sum := natR_sum (ns := na) (ts := KL.totalsM c) (qs := qs) (N := (KL.totalsM c).length) (by omega) (fun k hk => by have := hb k hk; omega) rfl (by omega)
  have hts := sum_bd (l := KL.totalsM c) fun x hx => by have := htb x hx; omega
  have hnn : ∀ x ∈ (nationsM c na 12 qs).map (fun x => x.getD 2 0), 0 ≤ x := fun x hx => by
    obtain ⟨y, hy, rfl⟩ := List.mem_map.1 hx
    have hy' : y ∈ natR na (KL.totalsM c) 12 qs (KL.totalsM c).length := hy
    obtain ⟨g, _, _, rfl⟩ := natR_mem.1 hy'
    exact best_nn (fun z hz => (htb z (grp_mem hz)).1) 12
  have hlen : (nationsM c na mo qs).length ≤ 31 := by
    have h1 := natR_len (ns := na) (ts := KL.totalsM c) (mo := mo) (qs := qs) (N := (KL.totalsM c).length)
    have h2 := outL_len na (KL.totalsM c) mo (KL.totalsM c).length 31
    have h3 : (nationsM c na mo qs).length = (natR na (KL.totalsM c) mo qs (KL.totalsM c).length).length := rfl
    omega
  have hu4 : ∀ m, uni 4 (nationsM c na m qs) := fun m => natR_uni (ns := na) (ts := KL.totalsM c) (mo := m) (qs := qs) (N := (KL.totalsM c).length)
  refine LoopOK.count (nationsM c na mo qs).length (fun u => tms_S4 (nationsM c na mo qs) (nationsM c na 12 qs) sm u ((((nationsM c na 12 qs).map fun x => x.getD 2 0).take u).sum)) (fun u hu => ?_) ?_ (by simp)
  · obtain ⟨a, p, hr, hp⟩ := nat_row (mo := mo) (qs := qs) hu
    obtain ⟨a', p', hr', hp'⟩ := nat_row (mo := 12) (qs := qs) (c := c) (na := na) (u := u) (by omega)
    have e : (((nationsM c na 12 qs).map fun x => x.getD 2 0).take (u + 1)).sum = (((nationsM c na 12 qs).map fun x => x.getD 2 0).take u).sum + p' := by
      rw [List.take_add_one, List.getElem?_map, hr', List.sum_append]
      simp
    have b1 := take_mono hnn (Nat.zero_le (u + 1))
    have b2 := take_mono hnn (show u + 1 ≤ ((nationsM c na 12 qs).map fun x => x.getD 2 0).length by rw [List.length_map]; omega)
    rw [List.take_length, hsum] at b2
    rw [List.take_zero, List.sum_nil] at b1
    refine tms_L4_p0 (v'508 := (nationsM c na mo qs).length) (by omega) hr (hu4 _) hr' (hu4 _) (by unfold inR; omega) ?_ (inR_nat (by omega)) rfl e
    refine LoopOK.count (nationsM c na mo qs).length (fun v => tms_S5 (nationsM c na mo qs) (nationsM c na 12 qs) sm u _ a _ p _ p' v) (fun v hv => ?_) (tms_L5_p8 (by omega)) (by simp)
    obtain ⟨a2, p2, hr2, hp2⟩ := nat_row (mo := mo) (qs := qs) hv
    by_cases h1 : p2 < p
    · have k1 := rk_lt hp h1
      have k2 := rkOf_bd (natP na (KL.totalsM c) mo (KL.totalsM c).length) p (natP na (KL.totalsM c) mo (KL.totalsM c).length).length
      exact tms_L5_p4 (by omega) hr2 (hu4 _) h1 (qt_mono hf h0 k2.1 (by omega)) k1 (by omega) (inR_nat (by omega)) rfl
    · by_cases h2 : p = p2
      · subst h2
        exact tms_L5_p6 (by omega) hr2 (hu4 _) (by omega) rfl rfl (inR_nat (by omega)) rfl
      · exact tms_L5_p7 (by omega) hr2 (hu4 _) (by omega) h2 (inR_nat (by omega)) rfl
  · rw [show (((nationsM c na 12 qs).map fun x => x.getD 2 0).take (nationsM c na mo qs).length).sum = (KL.totalsM c).sum by
      rw [hle, ← hsum, List.take_of_length_le (by rw [List.length_map]; omega)]]
    exact tms_L4_p1 (by omega)

theorem teams_ok (l g : List Int) (w : Int) (hw : 0 ≤ w ∧ w ≤ 255) {base : Nat} : FV Tryz.prog 4 [.p (.sl l.length (l.map byteP)), .p (.sl g.length (g.map byteP)), .p (.v (.int .u8 w))] base (.p (blP true)) [] := by
  have hsp := madeM_spec 8 8 l 0 17 (by omega) (by omega) (by omega)
  obtain ⟨⟨c, m, t⟩, e⟩ : ∃ q, q = madeM 8 8 l 0 17 := ⟨_, rfl⟩
  rw [← e] at hsp
  obtain ⟨_, hV, _⟩ := hsp
  dsimp only at hV
  have s1 := hV.sk1
  have s2 := hV.sk2
  have hmo : 0 ≤ w.tmod 11 ∧ w.tmod 11 < 11 := ⟨Int.tmod_nonneg _ hw.1, Int.tmod_lt_of_pos _ (by omega)⟩
  obtain ⟨na, m5, t6, c1, i1, b1, b2⟩ := tms_na (g := g) (w := w) s2 c.sk.toNat 0 [] 0 17 (by omega) ⟨rfl, by simp⟩ (by omega) (by omega)
  rw [Nat.zero_add] at c1 i1
  have d1 := btwM_bd 3 9 g m5 t6
  obtain ⟨⟨r7, m8, t9⟩, e1⟩ : ∃ q, q = btwM 3 9 g m5 t6 := ⟨_, rfl⟩
  rw [← e1] at d1
  dsimp only at d1
  have d2 := btwM_bd 1 6 g m8 t9
  obtain ⟨⟨r10, m11, t12⟩, e2⟩ : ∃ q, q = btwM 1 6 g m8 t9 := ⟨_, rfl⟩
  rw [← e2] at d2
  dsimp only at d2
  obtain ⟨qs, pa, m16, t17, c2, i2, b3, b4⟩ := tms_qs (g := g) (w := w) (c := c) (na := na) (r10 := r10) (by omega) r10.toNat 0 [] r7 m11 t12 (by omega) ⟨rfl, by omega, by simp, .nil⟩ (by omega) (by omega)
  rw [Nat.zero_add] at c2 i2
  have hl : (na.length : Int) = c.sk := by rw [i1.len]; omega
  have hql := i2.len
  have hqb : ∀ x ∈ qs, 0 ≤ x ∧ x ≤ 20 := fun x hx => by
    have := i2.bd x hx
    have := i2.pa1
    omega
  have hE : ∀ mo, 1 ≤ mo → mo ≤ 12 → natE c na mo qs = 0 := fun mo h1 h2 => natE_zero hV hl i1.bd ⟨h1, h2⟩ (by omega) hqb i2.pw
  have hlen : ∀ a b, (nationsM c na a qs).length = (nationsM c na b qs).length := fun a b => by
    have h1 := natR_len (ns := na) (ts := KL.totalsM c) (mo := a) (qs := qs) (N := (KL.totalsM c).length)
    have h2 := natR_len (ns := na) (ts := KL.totalsM c) (mo := b) (qs := qs) (N := (KL.totalsM c).length)
    have h3 := outL_len_eq (ns := na) (ts := KL.totalsM c) (N := (KL.totalsM c).length) a b 31
    have h4 : (nationsM c na a qs).length = (natR na (KL.totalsM c) a qs (KL.totalsM c).length).length := rfl
    have h5 : (nationsM c na b qs).length = (natR na (KL.totalsM c) b qs (KL.totalsM c).length).length := rfl
    omega
  have htl := totalsM_len c
  exact tms_p4 (by omega) (by omega) (by omega) e.symm (by unfold inR; omega) (by unfold inR; omega) c1 ⟨by omega, by omega⟩ (by omega) e1.symm ⟨by omega, by omega⟩ (by omega) e2.symm c2 hV.small
    (hE _ (by omega) (by omega)) rfl (by unfold inR; omega) (hE _ (by omega) (by omega)) rfl (hE _ (by omega) (by omega)) rfl hV rfl (by rw [hlen]) (by rw [hlen]) (by omega)
    (tms_each hV hl i1.bd (by omega)) (tms_pairs hV hl i1.bd i2.pw (fun x hx => (hqb x hx).1) (hlen _ _)) rfl
end KV
end Go.Proofs
end
