/- Parts of the proof of JTables: laws of walks, contracts of functions, plain models. No condition. -/
import Derived.Test.YtgehgmllhmfbpaaGreatPJTablesE
set_option linter.unusedVariables false
set_option linter.unusedSimpArgs false
set_option maxRecDepth 100000
namespace Go.Proofs
namespace KV
section
open KL
noncomputable abbrev zU3c0 : Code := sub (cd Tryz.f18) [1, 1, 0, 1, 0, 0]
noncomputable abbrev zU3c1 : Code := sub (cd Tryz.f53) [1, 1, 0, 1, 0, 0, 1, 0, 0, 1, 0, 1, 0, 0]
noncomputable abbrev zU3c2 : Code := sub (cd Tryz.f47) [1, 1, 0, 1, 0, 0, 1, 0, 0, 1, 0, 0]
noncomputable abbrev zU3c3 : Code := sub (cd Tryz.f124) [1, 1, 1, 1, 0, 1, 0, 0]
noncomputable abbrev zU3c4 : Code := sub (cd Tryz.f53) [1, 1, 0, 1, 0, 0]
noncomputable abbrev zU3c5 : Code := sub (cd Tryz.f48) [1, 1, 0, 1, 0, 0]
noncomputable abbrev zU3c6 : Code := sub (cd Tryz.f116) [1, 1, 0, 1, 0, 0]
noncomputable abbrev zU3c7 : Code := sub (cd Tryz.f61) [1, 1, 0, 1, 0, 0]
noncomputable abbrev zU3c8 : Code := sub (cd Tryz.f47) [1, 1, 0, 1, 0, 0]
noncomputable abbrev zU3c9 : Code := sub (cd Tryz.f52) [1, 1, 1, 0, 1, 0, 0]
noncomputable abbrev zU3c10 : Code := sub (cd Tryz.f46) [1, 1, 0, 1, 0, 0]
def rsc_S0 (c : Cup) (l : List Int) (x0 : Int) (q : Int) (sm : Int) : St := ⟨fr 44 [(3, (.ptr 0 0)), (6, (.p (intP 0))), (7, (.p (intP x0))), (8, (.p (intP sm))), (9, (.p (intP (((l.count x0) : Nat) : Int)))), (10, (.p (intP q)))], [some (.box 37 [(.p (intP c.sk)), (.p (intP c.ra)), (.p (intP c.be)), (.p (intsP c.pts)), (.p (rowsP c.done))])]⟩
theorem rsc_p0 {c : Cup} {l : List Int} {k x0 : Int} (h0 : l[k.toNat]? = some x0) (h1 : 0 ≤ k) (h2 : x0 = (0 : Int)) {base : Nat} : FV Tryz.prog 124 [(.p (cupP c)), (.p (intsP l)), (.p (intP k))] base (.p (intP 0)) [] := by
  exact FV.fin Tryz.func124 rfl (o := [.x (intP x0), .b true]) (l := [_, (l.map intP)[(k.toNat * 1)]? = some (intP x0), 0 ≤ k ∧ k < (l.length : Int) ∧ (k.toNat * 1) < (l.map intP).length]) (by kernel_rfl) (gc (q_eq h2) (gc (at_map (i := k.toNat) h0) (gc (ix_map (i := k) h1 h0) gn)))
theorem rsc_p1 {c : Cup} {l : List Int} {k x0 q'1 sm'2 r0 : Int} (h0 : l[k.toNat]? = some x0) (h1 : 0 ≤ k) (h2 : x0 ≠ (0 : Int)) (h3 : l.length ≤ 1000) (hl4 : LoopOK Tryz.prog 0 zU3c3 (rsc_S0 c l x0 x0 (0 : Int)) (.exit 0) (rsc_S0 c l x0 q'1 sm'2)) (h5 : (((l.count x0) : Nat) : Int) ≠ 0) (h6 : inR (sm'2.tdiv (((l.count x0) : Nat) : Int))) (er0 : r0 = (sm'2.tdiv (((l.count x0) : Nat) : Int))) {base : Nat} : FV Tryz.prog 124 [(.p (cupP c)), (.p (intsP l)), (.p (intP k))] base (.p (intP r0)) [] := by
  subst er0
  exact FV.fin Tryz.func124 rfl (o := [.x (intP x0), .b false, .c (.p (intP (((l.count x0) : Nat) : Int))) [], .k 4 ⟨(rng [(0, 3), (4, 2), (11, 30)]), [0], [], []⟩ (.exit 0) (rsc_S0 c l x0 q'1 sm'2)]) (l := [_, _, _, FC Tryz.prog 114 [(.p (intsP l)), (.p (intP x0))] [] 1 (.p (intP (((l.count x0) : Nat) : Int))) [], _, (l.map intP)[(k.toNat * 1)]? = some (intP x0), 0 ≤ k ∧ k < (l.length : Int) ∧ (k.toNat * 1) < (l.map intP).length]) (by kernel_rfl) (gc h6 (gc h5 (gc hl4.code (gc (FV.fc (shr_ok l x0 h3) rfl) (gc (q_ne h2) (gc (at_map (i := k.toNat) h0) (gc (ix_map (i := k) h1 h0) gn)))))))
theorem rsc_L0_p0 {c : Cup} {l : List Int} {x0 q sm x100 q' sm' : Int} (h0 : inR (x0 + (((l.count x0) : Nat) : Int))) (h1 : q < (x0 + (((l.count x0) : Nat) : Int))) (h2 : q ≤ (c.pts.length : Int)) (h3 : inR (q - (1 : Int))) (h4 : c.pts[(q - (1 : Int)).toNat]? = some x100) (h5 : 0 ≤ (q - (1 : Int))) (h6 : inR (sm + x100)) (h7 : inR (q + (1 : Int))) (eq' : q' = (q + (1 : Int))) (esm' : sm' = (sm + x100)) : CodeOK Tryz.prog 0 zU3c3 (rsc_S0 c l x0 q sm) .normal (rsc_S0 c l x0 q' sm') := by
  subst eq' esm'
  exact CodeOK.fin (g := ⟨(rng [(0, 3), (4, 2), (11, 30)]), [0], [], []⟩) (o := [.b true, .b true, .x (intP x100)]) (l := [_, _, (c.pts.map intP)[((q - (1 : Int)).toNat * 1)]? = some (intP x100), 0 ≤ (q - (1 : Int)) ∧ (q - (1 : Int)) < (c.pts.length : Int) ∧ ((q - (1 : Int)).toNat * 1) < (c.pts.map intP).length, _, _, _, _]) (by kernel_rfl) (gc h7 (gc h6 (gc (at_map (i := (q - (1 : Int)).toNat) h4) (gc (ix_map (i := (q - (1 : Int))) h5 h4) (gc h3 (gc (q_le h2) (gc (q_lt h1) (gc h0 gn))))))))
theorem rsc_L0_p1 {c : Cup} {l : List Int} {x0 q sm q' : Int} (h0 : inR (x0 + (((l.count x0) : Nat) : Int))) (h1 : q < (x0 + (((l.count x0) : Nat) : Int))) (h2 : (c.pts.length : Int) < q) (h3 : inR (q + (1 : Int))) (eq' : q' = (q + (1 : Int))) : CodeOK Tryz.prog 0 zU3c3 (rsc_S0 c l x0 q sm) .normal (rsc_S0 c l x0 q' sm) := by
  subst eq'
  exact CodeOK.fin (g := ⟨(rng [(0, 3), (4, 2), (11, 30)]), [0], [], []⟩) (o := [.b true, .b false]) (l := [_, _, _, _]) (by kernel_rfl) (gc h3 (gc (q_leF h2) (gc (q_lt h1) (gc h0 gn))))
theorem rsc_L0_p2 {c : Cup} {l : List Int} {x0 q sm : Int} (h0 : inR (x0 + (((l.count x0) : Nat) : Int))) (h1 : (x0 + (((l.count x0) : Nat) : Int)) ≤ q) : CodeOK Tryz.prog 0 zU3c3 (rsc_S0 c l x0 q sm) (.exit 0) (rsc_S0 c l x0 q sm) := by
  exact CodeOK.fin (g := ⟨(rng [(0, 3), (4, 2), (11, 30)]), [0], [], []⟩) (o := [.b false]) (l := [_, _]) (by kernel_rfl) (gc (q_ltF h1) (gc h0 gn))
theorem rsc_ok (c : Cup) (l : List Int) (k : Int) (hV : KL.Valid c) (hl : l.length ≤ 1000) (hb : ∀ x ∈ l, 0 ≤ x ∧ x ≤ 60) (hk : 0 ≤ k ∧ k < l.length) {base : Nat} : FV Tryz.prog 124 [.p (cupP c), .p (intsP l), .p (intP k)] base (.p (intP (scoreM c.pts l k.toNat))) [] := by
  have hp := hV.pt2
  obtain ⟨x, hx⟩ : ∃ x, l[k.toNat]? = some x := ⟨l[k.toNat]'(by omega), List.getElem?_eq_getElem (by omega)⟩
  have hg : l.getD k.toNat 0 = x := by rw [List.getD_eq_getElem?_getD, hx]; rfl
  have hxb := hb x (List.mem_of_getElem? hx)
  unfold scoreM
  rw [hg]
  by_cases h0 : x = 0
  · rw [if_pos h0]; exact rsc_p0 hx hk.1 h0
  · rw [if_neg h0]
    have hc1 : l.count x ≤ l.length := List.count_le_length
    have hc2 : 1 ≤ l.count x := List.count_pos_iff.2 (List.mem_of_getElem? hx)
    have hw : ∀ m, 0 ≤ KL.worthM c.pts x.toNat m ∧ KL.worthM c.pts x.toNat m ≤ 1000 * m := fun m => KL.worthM_bd _ _ _ hV.pts
    have h := LoopOK.count (P := Tryz.prog) (k := 0) (b := zU3c3) (e := .exit 0) (R := rsc_S0 c l x (x + (l.count x : Int)) (KL.worthM c.pts x.toNat (l.count x))) (l.count x) (fun j => rsc_S0 c l x (x + (j : Int)) (KL.worthM c.pts x.toNat j))
      (fun j hj => by
        have hw1 := hw j
        have hw2 := hw (j + 1)
        have es := KL.worth_snoc c.pts x.toNat j
        by_cases e : x + (j : Int) ≤ c.pts.length
        · have ei : (x + (j : Int) - 1).toNat = x.toNat - 1 + j := by omega
          have ea : c.pts[(x + (j : Int) - 1).toNat]? = some (c.pts.getD (x.toNat - 1 + j) 0) := by
            rw [ei, List.getD_eq_getElem?_getD, List.getElem?_eq_getElem (by omega)]; rfl
          exact rsc_L0_p0 (by unfold inR; omega) (by omega) e (by unfold inR; omega) ea (by omega) (by rw [← es]; unfold inR; omega) (by unfold inR; omega) (by omega) es
        · have e0 : c.pts.getD (x.toNat - 1 + j) 0 = 0 := by
            rw [List.getD_eq_getElem?_getD, List.getElem?_eq_none (by omega)]; rfl
          rw [e0, Int.add_zero] at es
          have h1 := rsc_L0_p1 (c := c) (l := l) (x0 := x) (q := x + (j : Int)) (sm := KL.worthM c.pts x.toNat j) (q' := x + ((j + 1 : Nat) : Int)) (by unfold inR; omega) (by omega) (by omega) (by unfold inR; omega) (by omega)
          have key : ∀ w, w = KL.worthM c.pts x.toNat j → CodeOK Tryz.prog 0 zU3c3 (rsc_S0 c l x (x + (j : Int)) (KL.worthM c.pts x.toNat j)) .normal (rsc_S0 c l x (x + ((j + 1 : Nat) : Int)) w) := by rintro _ rfl; exact h1
          exact key _ es)
      (rsc_L0_p2 (by unfold inR; omega) (by omega)) (by simp)
    have w0 : KL.worthM c.pts x.toNat 0 = 0 := by unfold KL.worthM; simp
    rw [show x + ((0 : Nat) : Int) = x by omega, w0] at h
    have hd : (KL.worthM c.pts x.toNat (l.count x)).tdiv (l.count x : Int) = KL.worthM c.pts x.toNat (l.count x) / (l.count x : Int) := Int.tdiv_eq_ediv_of_nonneg (hw _).1
    have d1 := Int.ediv_nonneg (hw (l.count x)).1 (show (0 : Int) ≤ (l.count x : Int) by omega)
    have d2 := Int.ediv_le_self (l.count x : Int) (hw (l.count x)).1
    have d3 := (hw (l.count x)).2
    exact rsc_p1 hx hk.1 h0 hl h (by omega) (by rw [hd]; unfold inR; omega) hd.symm
def rcn_S0 (c : Cup) (k : Int) (i : Nat) (on : Nat) (oc : List PV) : St := ⟨fr 65 [(1, (.p (intP k))), (2, (.ptr 0 0)), (4, (.p nilS)), (5, (.own 1)), (6, (.p (intP (i : Int))))], [some (.box 37 [(.p (intP c.sk)), (.p (intP c.ra)), (.p (intP c.be)), (.p (intsP c.pts)), (.p (rowsP c.done))]), some (.row 3 on oc)]⟩
theorem rcn_p0 {c : Cup} {k : Int} {i'0 : Nat} {o'1 : List Int} (hl0 : LoopOK Tryz.prog 0 zU3c4 (rcn_S0 c k 0 0 []) (.exit 0) (rcn_S0 c k i'0 o'1.length (o'1.map intP))) {base : Nat} : FV Tryz.prog 53 [(.p (cupP c)), (.p (intP k))] base (.p (intsP o'1)) [] := by
  exact FV.frz (FMM.fin (k := 0) (g := ⟨[], [], [1], []⟩) rfl Tryz.func53 rfl (o := [.k 8 ⟨(rng [(0, 1), (3, 1), (7, 57)]), [0, 1], [], [(5, 3)]⟩ (.exit 0) (rcn_S0 c k i'0 o'1.length (o'1.map intP))]) (l := [_]) (by kernel_rfl) (gc hl0.code gn)) (by kernel_rfl)
def rcn_S1 (c : Cup) (k : Int) (i : Nat) (o : List Int) (j : Nat) (n : Nat) : St := ⟨fr 65 [(1, (.p (intP k))), (2, (.ptr 0 0)), (4, (.p nilS)), (5, (.own 1)), (6, (.p (intP (i : Int)))), (7, (.p (intP (n : Int)))), (8, (.p (intP (j : Int)))), (11, (.p (intP (i : Int)))), (12, (.ptr 0 4)), (13, (.p (rowsP c.done))), (14, (.p (intP (c.done.length : Int)))), (15, (.p (blP (decide ((i : Int) < (c.done.length : Int))))))], [some (.box 37 [(.p (intP c.sk)), (.p (intP c.ra)), (.p (intP c.be)), (.p (intsP c.pts)), (.p (rowsP c.done))]), some (.row 3 o.length (o.map intP))]⟩
theorem rcn_L0_p0 {c : Cup} {k : Int} {i : Nat} {o : List Int} {j'100 n'101 i' : Nat} {o' : List Int} (h0 : (i : Int) < (c.done.length : Int)) (hl1 : LoopOK Tryz.prog 0 zU3c1 (rcn_S1 c k i o 0 0) (.exit 2) (rcn_S1 c k i o j'100 n'101)) (h2 : (n'101 : Int) < c.be) (h3 : [(intP (i : Int))].length = 1 * 1 ∧ o.length + 1 ≤ 1000000) (h4 : inR (((i + 1) : Nat) : Int)) (ei' : i' = (i + 1)) (eo'n : o'.length = (o.length + 1)) (eo'c : o'.map intP = ((o.map intP) ++ [(intP (i : Int))])) : CodeOK Tryz.prog 0 zU3c4 (rcn_S0 c k i o.length (o.map intP)) .normal (rcn_S0 c k i' o'.length (o'.map intP)) := by
  subst ei'
  have raw : CodeOK Tryz.prog 0 zU3c4 (rcn_S0 c k i o.length (o.map intP)) .normal (rcn_S0 c k (i + 1) (o.length + 1) ((o.map intP) ++ [(intP (i : Int))])) := CodeOK.fin (g := ⟨(rng [(0, 1), (3, 1), (7, 57)]), [0, 3], [], []⟩) (o := [.b true, .k 8 ⟨(rng [(0, 1), (3, 1), (9, 2), (18, 38)]), [0, 1], [], []⟩ (.exit 2) (rcn_S1 c k i o j'100 n'101), .b true]) (l := [_, _, _, _, _]) (by kernel_rfl) (gc h4 (gc h3 (gc (q_lt h2) (gc hl1.code (gc (q_lt h0) gn)))))
  exact raw.cast (by rw [eo'n, eo'c])
theorem rcn_L0_p1 {c : Cup} {k : Int} {i : Nat} {o : List Int} {j'100 n'101 i' : Nat} (h0 : (i : Int) < (c.done.length : Int)) (hl1 : LoopOK Tryz.prog 0 zU3c1 (rcn_S1 c k i o 0 0) (.exit 2) (rcn_S1 c k i o j'100 n'101)) (h2 : c.be ≤ (n'101 : Int)) (h3 : inR (((i + 1) : Nat) : Int)) (ei' : i' = (i + 1)) : CodeOK Tryz.prog 0 zU3c4 (rcn_S0 c k i o.length (o.map intP)) .normal (rcn_S0 c k i' o.length (o.map intP)) := by
  subst ei'
  exact CodeOK.fin (g := ⟨(rng [(0, 1), (3, 1), (7, 57)]), [0, 1], [], []⟩) (o := [.b true, .k 8 ⟨(rng [(0, 1), (3, 1), (9, 2), (18, 38)]), [0, 1], [], []⟩ (.exit 2) (rcn_S1 c k i o j'100 n'101), .b false]) (l := [_, _, _, _]) (by kernel_rfl) (gc h3 (gc (q_ltF h2) (gc hl1.code (gc (q_lt h0) gn))))
theorem rcn_L0_p2 {c : Cup} {k : Int} {i : Nat} {o : List Int} (h0 : (c.done.length : Int) ≤ (i : Int)) : CodeOK Tryz.prog 0 zU3c4 (rcn_S0 c k i o.length (o.map intP)) (.exit 0) (rcn_S0 c k i o.length (o.map intP)) := by
  exact CodeOK.fin (g := ⟨(rng [(0, 1), (3, 1), (7, 57)]), [0, 1], [], []⟩) (o := [.b false]) (l := [_]) (by kernel_rfl) (gc (q_ltF h0) gn)
theorem rcn_L1_p0 {c : Cup} {k : Int} {i : Nat} {o : List Int} {j n : Nat} {x200 x201 : List Int} {j' n' : Nat} (h0 : (j : Int) < (c.done.length : Int)) (h1 : c.done[i]? = some x200) (h2 : KL.Valid c) (h3 : x200.length ≤ 1000) (h4 : ∀ x ∈ x200, 0 ≤ x ∧ x ≤ 60) (h5 : 0 ≤ k ∧ k < x200.length) (h6 : c.done[j]? = some x201) (h7 : x201.length ≤ 1000) (h8 : ∀ x ∈ x201, 0 ≤ x ∧ x ≤ 60) (h9 : 0 ≤ k ∧ k < x201.length) (h10 : (scoreM c.pts x200 k.toNat) < (scoreM c.pts x201 k.toNat)) (h11 : inR (((n + 1) : Nat) : Int)) (h12 : inR (((j + 1) : Nat) : Int)) (ej' : j' = (j + 1)) (en' : n' = (n + 1)) : CodeOK Tryz.prog 0 zU3c1 (rcn_S1 c k i o j n) .normal (rcn_S1 c k i o j' n') := by
  subst ej' en'
  exact CodeOK.fin (g := ⟨(rng [(0, 1), (3, 1), (9, 2), (18, 38)]), [0, 1], [], []⟩) (o := [.b true, .x (intsP x200), .c (.p (intP (scoreM c.pts x200 k.toNat))) [], .x (intsP x201), .c (.p (intP (scoreM c.pts x201 k.toNat))) [], .b true, .b true, .b true, .b true, .b true, .b true]) (l := [_, _, _, _, _, _, _, _, FC Tryz.prog 124 [(.p (cupP c)), (.p (intsP x201)), (.p (intP k))] [] 6 (.p (intP (scoreM c.pts x201 k.toNat))) [], (c.done.map intsP)[(j * 1)]? = some (intsP x201), 0 ≤ (j : Int) ∧ (j : Int) < (c.done.length : Int) ∧ (j * 1) < (c.done.map intsP).length, FC Tryz.prog 124 [(.p (cupP c)), (.p (intsP x200)), (.p (intP k))] [] 2 (.p (intP (scoreM c.pts x200 k.toNat))) [], (c.done.map intsP)[(i * 1)]? = some (intsP x200), 0 ≤ (i : Int) ∧ (i : Int) < (c.done.length : Int) ∧ (i * 1) < (c.done.map intsP).length, _]) (by kernel_rfl) (gc h12 (gc h11 (gc (q_lt h10) (gc (q_lt h10) (gc (q_lt h10) (gc (q_lt h10) (gc (q_lt h10) (gc (q_lt h10) (gc (FV.fc (rsc_ok c x201 k h2 h7 h8 h9) rfl) (gc (at_map (i := j) h6) (gc (ix_map (i := (j : Int)) (Int.natCast_nonneg _) h6) (gc (FV.fc (rsc_ok c x200 k h2 h3 h4 h5) rfl) (gc (at_map (i := i) h1) (gc (ix_map (i := (i : Int)) (Int.natCast_nonneg _) h1) (gc (q_lt h0) gn)))))))))))))))
theorem rcn_L1_p1 {c : Cup} {k : Int} {i : Nat} {o : List Int} {j n : Nat} {x200 x201 : List Int} {j' n' : Nat} (h0 : (j : Int) < (c.done.length : Int)) (h1 : c.done[i]? = some x200) (h2 : KL.Valid c) (h3 : x200.length ≤ 1000) (h4 : ∀ x ∈ x200, 0 ≤ x ∧ x ≤ 60) (h5 : 0 ≤ k ∧ k < x200.length) (h6 : c.done[j]? = some x201) (h7 : x201.length ≤ 1000) (h8 : ∀ x ∈ x201, 0 ≤ x ∧ x ≤ 60) (h9 : 0 ≤ k ∧ k < x201.length) (h10 : (scoreM c.pts x201 k.toNat) ≤ (scoreM c.pts x200 k.toNat)) (h11 : (scoreM c.pts x201 k.toNat) = (scoreM c.pts x200 k.toNat)) (h12 : (j : Int) < (i : Int)) (h13 : inR (((n + 1) : Nat) : Int)) (h14 : inR (((j + 1) : Nat) : Int)) (ej' : j' = (j + 1)) (en' : n' = (n + 1)) : CodeOK Tryz.prog 0 zU3c1 (rcn_S1 c k i o j n) .normal (rcn_S1 c k i o j' n') := by
  subst ej' en'
  exact CodeOK.fin (g := ⟨(rng [(0, 1), (3, 1), (9, 2), (18, 38)]), [0, 1], [], []⟩) (o := [.b true, .x (intsP x200), .c (.p (intP (scoreM c.pts x200 k.toNat))) [], .x (intsP x201), .c (.p (intP (scoreM c.pts x201 k.toNat))) [], .b false, .b false, .b false, .b false, .b true, .b true, .b true, .b false, .b true, .b false, .b true]) (l := [_, _, _, _, _, _, _, _, _, _, _, _, _, FC Tryz.prog 124 [(.p (cupP c)), (.p (intsP x201)), (.p (intP k))] [] 6 (.p (intP (scoreM c.pts x201 k.toNat))) [], (c.done.map intsP)[(j * 1)]? = some (intsP x201), 0 ≤ (j : Int) ∧ (j : Int) < (c.done.length : Int) ∧ (j * 1) < (c.done.map intsP).length, FC Tryz.prog 124 [(.p (cupP c)), (.p (intsP x200)), (.p (intP k))] [] 2 (.p (intP (scoreM c.pts x200 k.toNat))) [], (c.done.map intsP)[(i * 1)]? = some (intsP x200), 0 ≤ (i : Int) ∧ (i : Int) < (c.done.length : Int) ∧ (i * 1) < (c.done.map intsP).length, _]) (by kernel_rfl) (gc h14 (gc h13 (gc (q_lt h12) (gc (q_ltF h10) (gc (q_eq h11) (gc (q_ltF h10) (gc (q_eq h11) (gc (q_eq h11) (gc (q_eq h11) (gc (q_ltF h10) (gc (q_ltF h10) (gc (q_ltF h10) (gc (q_ltF h10) (gc (FV.fc (rsc_ok c x201 k h2 h7 h8 h9) rfl) (gc (at_map (i := j) h6) (gc (ix_map (i := (j : Int)) (Int.natCast_nonneg _) h6) (gc (FV.fc (rsc_ok c x200 k h2 h3 h4 h5) rfl) (gc (at_map (i := i) h1) (gc (ix_map (i := (i : Int)) (Int.natCast_nonneg _) h1) (gc (q_lt h0) gn))))))))))))))))))))
theorem rcn_L1_p2 {c : Cup} {k : Int} {i : Nat} {o : List Int} {j n : Nat} {x200 x201 : List Int} {j' : Nat} (h0 : (j : Int) < (c.done.length : Int)) (h1 : c.done[i]? = some x200) (h2 : KL.Valid c) (h3 : x200.length ≤ 1000) (h4 : ∀ x ∈ x200, 0 ≤ x ∧ x ≤ 60) (h5 : 0 ≤ k ∧ k < x200.length) (h6 : c.done[j]? = some x201) (h7 : x201.length ≤ 1000) (h8 : ∀ x ∈ x201, 0 ≤ x ∧ x ≤ 60) (h9 : 0 ≤ k ∧ k < x201.length) (h10 : (scoreM c.pts x201 k.toNat) ≤ (scoreM c.pts x200 k.toNat)) (h11 : (scoreM c.pts x201 k.toNat) = (scoreM c.pts x200 k.toNat)) (h12 : (i : Int) ≤ (j : Int)) (h13 : inR (((j + 1) : Nat) : Int)) (ej' : j' = (j + 1)) : CodeOK Tryz.prog 0 zU3c1 (rcn_S1 c k i o j n) .normal (rcn_S1 c k i o j' n) := by
  subst ej'
  exact CodeOK.fin (g := ⟨(rng [(0, 1), (3, 1), (9, 2), (18, 38)]), [0, 1], [], []⟩) (o := [.b true, .x (intsP x200), .c (.p (intP (scoreM c.pts x200 k.toNat))) [], .x (intsP x201), .c (.p (intP (scoreM c.pts x201 k.toNat))) [], .b false, .b false, .b false, .b false, .b true, .b true, .b true, .b false, .b true, .b false, .b false]) (l := [_, _, _, _, _, _, _, _, _, _, _, _, FC Tryz.prog 124 [(.p (cupP c)), (.p (intsP x201)), (.p (intP k))] [] 6 (.p (intP (scoreM c.pts x201 k.toNat))) [], (c.done.map intsP)[(j * 1)]? = some (intsP x201), 0 ≤ (j : Int) ∧ (j : Int) < (c.done.length : Int) ∧ (j * 1) < (c.done.map intsP).length, FC Tryz.prog 124 [(.p (cupP c)), (.p (intsP x200)), (.p (intP k))] [] 2 (.p (intP (scoreM c.pts x200 k.toNat))) [], (c.done.map intsP)[(i * 1)]? = some (intsP x200), 0 ≤ (i : Int) ∧ (i : Int) < (c.done.length : Int) ∧ (i * 1) < (c.done.map intsP).length, _]) (by kernel_rfl) (gc h13 (gc (q_ltF h12) (gc (q_ltF h10) (gc (q_eq h11) (gc (q_ltF h10) (gc (q_eq h11) (gc (q_eq h11) (gc (q_eq h11) (gc (q_ltF h10) (gc (q_ltF h10) (gc (q_ltF h10) (gc (q_ltF h10) (gc (FV.fc (rsc_ok c x201 k h2 h7 h8 h9) rfl) (gc (at_map (i := j) h6) (gc (ix_map (i := (j : Int)) (Int.natCast_nonneg _) h6) (gc (FV.fc (rsc_ok c x200 k h2 h3 h4 h5) rfl) (gc (at_map (i := i) h1) (gc (ix_map (i := (i : Int)) (Int.natCast_nonneg _) h1) (gc (q_lt h0) gn)))))))))))))))))))
theorem rcn_L1_p3 {c : Cup} {k : Int} {i : Nat} {o : List Int} {j n : Nat} {x200 x201 : List Int} {j' : Nat} (h0 : (j : Int) < (c.done.length : Int)) (h1 : c.done[i]? = some x200) (h2 : KL.Valid c) (h3 : x200.length ≤ 1000) (h4 : ∀ x ∈ x200, 0 ≤ x ∧ x ≤ 60) (h5 : 0 ≤ k ∧ k < x200.length) (h6 : c.done[j]? = some x201) (h7 : x201.length ≤ 1000) (h8 : ∀ x ∈ x201, 0 ≤ x ∧ x ≤ 60) (h9 : 0 ≤ k ∧ k < x201.length) (h10 : (scoreM c.pts x201 k.toNat) ≤ (scoreM c.pts x200 k.toNat)) (h11 : (scoreM c.pts x201 k.toNat) ≠ (scoreM c.pts x200 k.toNat)) (h12 : inR (((j + 1) : Nat) : Int)) (ej' : j' = (j + 1)) : CodeOK Tryz.prog 0 zU3c1 (rcn_S1 c k i o j n) .normal (rcn_S1 c k i o j' n) := by
  subst ej'
  exact CodeOK.fin (g := ⟨(rng [(0, 1), (3, 1), (9, 2), (18, 38)]), [0, 1], [], []⟩) (o := [.b true, .x (intsP x200), .c (.p (intP (scoreM c.pts x200 k.toNat))) [], .x (intsP x201), .c (.p (intP (scoreM c.pts x201 k.toNat))) [], .b false, .b false, .b false, .b false, .b false, .b false, .b false, .b false, .b false, .b false]) (l := [_, _, _, _, _, _, _, _, _, _, _, FC Tryz.prog 124 [(.p (cupP c)), (.p (intsP x201)), (.p (intP k))] [] 6 (.p (intP (scoreM c.pts x201 k.toNat))) [], (c.done.map intsP)[(j * 1)]? = some (intsP x201), 0 ≤ (j : Int) ∧ (j : Int) < (c.done.length : Int) ∧ (j * 1) < (c.done.map intsP).length, FC Tryz.prog 124 [(.p (cupP c)), (.p (intsP x200)), (.p (intP k))] [] 2 (.p (intP (scoreM c.pts x200 k.toNat))) [], (c.done.map intsP)[(i * 1)]? = some (intsP x200), 0 ≤ (i : Int) ∧ (i : Int) < (c.done.length : Int) ∧ (i * 1) < (c.done.map intsP).length, _]) (by kernel_rfl) (gc h12 (gc (q_ltF h10) (gc (q_ne h11) (gc (q_ltF h10) (gc (q_ne h11) (gc (q_ne h11) (gc (q_ne h11) (gc (q_ltF h10) (gc (q_ltF h10) (gc (q_ltF h10) (gc (q_ltF h10) (gc (FV.fc (rsc_ok c x201 k h2 h7 h8 h9) rfl) (gc (at_map (i := j) h6) (gc (ix_map (i := (j : Int)) (Int.natCast_nonneg _) h6) (gc (FV.fc (rsc_ok c x200 k h2 h3 h4 h5) rfl) (gc (at_map (i := i) h1) (gc (ix_map (i := (i : Int)) (Int.natCast_nonneg _) h1) (gc (q_lt h0) gn))))))))))))))))))
theorem rcn_L1_p4 {c : Cup} {k : Int} {i : Nat} {o : List Int} {j n : Nat} (h0 : (c.done.length : Int) ≤ (j : Int)) : CodeOK Tryz.prog 0 zU3c1 (rcn_S1 c k i o j n) (.exit 2) (rcn_S1 c k i o j n) := by
  exact CodeOK.fin (g := ⟨(rng [(0, 1), (3, 1), (9, 2), (18, 38)]), [0, 1], [], []⟩) (o := [.b false]) (l := [_]) (by kernel_rfl) (gc (q_ltF h0) gn)
theorem cntdR_succ (c : Cup) (s n : Nat) : cntdR c s (n + 1) = cntdR c s n ++ if (befM c s n : Int) < c.be then [(n : Int)] else [] := by
  unfold cntdR
  rw [List.range_succ, List.filter_append, List.map_append]
  by_cases e : (befM c s n : Int) < c.be
  · rw [if_pos e, List.filter_cons_of_pos (by simpa using e)]; rfl
  · rw [if_neg e, List.filter_cons_of_neg (by simpa using e)]; rfl
theorem cntdR_len (c : Cup) (s n : Nat) : (cntdR c s n).length ≤ n := by
  unfold cntdR
  rw [List.length_map]
  exact Nat.le_trans (List.length_filter_le _ _) (by simp)
theorem rcn_ok (c : Cup) (k : Int) (hV : KL.Valid c) (hk : 0 ≤ k ∧ k < c.sk) {base : Nat} : FV Tryz.prog 53 [.p (cupP c), .p (intP k)] base (.p (intsP (countedL c k.toNat))) [] := by
  have s1 := hV.sk1
  have hd := hV.small.done
  have b1 := hV.be1
  have hS := hV.sk2
  have row : ∀ i, i < c.done.length → ∃ x, c.done[i]? = some x ∧ x.length ≤ 1000 ∧ (∀ y ∈ x, 0 ≤ y ∧ y ≤ 60) ∧ (0 ≤ k ∧ k < x.length) ∧ scoreM c.pts x k.toNat = scoreAt c i k.toNat := fun i hi => by
    have hx := List.getElem?_eq_getElem hi
    have hm := List.mem_of_getElem? hx
    have hl := hV.len _ hm
    refine ⟨_, hx, by omega, hV.rows _ hm, ⟨hk.1, by omega⟩, ?_⟩
    unfold scoreAt
    rw [List.getD_eq_getElem?_getD, hx]; rfl
  have inner : ∀ i, i < c.done.length → ∀ o : List Int, LoopOK Tryz.prog 0 zU3c1 (rcn_S1 c k i o 0 0) (.exit 2) (rcn_S1 c k i o c.done.length (befM c k.toNat i)) := fun i hi o => by
    obtain ⟨x, x1, x2, x3, x4, x5⟩ := row i hi
    refine LoopOK.count (P := Tryz.prog) (k := 0) (e := .exit 2) c.done.length (fun j => rcn_S1 c k i o j ((List.range j).countP fun q => bfB c k.toNat i q)) (fun j hj => ?_) (rcn_L1_p4 (by omega)) (by simp)
    obtain ⟨y, y1, y2, y3, y4, y5⟩ := row j hj
    have hb : ((List.range j).countP fun q => bfB c k.toNat i q) ≤ j := by
      have := List.countP_le_length (p := fun q => bfB c k.toNat i q) (l := List.range j)
      simpa using this
    have es : ((List.range (j + 1)).countP fun q => bfB c k.toNat i q) = ((List.range j).countP fun q => bfB c k.toNat i q) + if bfB c k.toNat i j = true then 1 else 0 := by
      rw [List.range_succ, List.countP_append, List.countP_singleton]
    by_cases e1 : scoreM c.pts x k.toNat < scoreM c.pts y k.toNat
    · have eb : bfB c k.toNat i j = true := by unfold bfB; rw [← x5, ← y5]; simp [e1]
      rw [if_pos eb] at es
      exact rcn_L1_p0 (by omega) x1 hV x2 x3 x4 y1 y2 y3 y4 e1 (inR_nat (by omega)) (inR_nat (by omega)) rfl es
    · by_cases e2 : scoreM c.pts y k.toNat = scoreM c.pts x k.toNat
      · by_cases e3 : j < i
        · have eb : bfB c k.toNat i j = true := by unfold bfB; rw [← x5, ← y5]; simp [e2, e3]
          rw [if_pos eb] at es
          exact rcn_L1_p1 (by omega) x1 hV x2 x3 x4 y1 y2 y3 y4 (by omega) e2 (by omega) (inR_nat (by omega)) (inR_nat (by omega)) rfl es
        · have eb : bfB c k.toNat i j = false := by unfold bfB; rw [← x5, ← y5]; simp [e2, e3]
          rw [if_neg (by rw [eb]; simp), Nat.add_zero] at es
          rw [es]
          exact rcn_L1_p2 (by omega) x1 hV x2 x3 x4 y1 y2 y3 y4 (by omega) e2 (by omega) (inR_nat (by omega)) rfl
      · have eb : bfB c k.toNat i j = false := by unfold bfB; rw [← x5, ← y5]; simp [e1, e2]
        rw [if_neg (by rw [eb]; simp), Nat.add_zero] at es
        rw [es]
        exact rcn_L1_p3 (by omega) x1 hV x2 x3 x4 y1 y2 y3 y4 (by omega) e2 (inR_nat (by omega)) rfl
  have h := LoopOK.count (P := Tryz.prog) (k := 0) (b := zU3c4) (e := .exit 0) (R := rcn_S0 c k c.done.length (cntdR c k.toNat c.done.length).length ((cntdR c k.toNat c.done.length).map intP)) c.done.length (fun i => rcn_S0 c k i (cntdR c k.toNat i).length ((cntdR c k.toNat i).map intP))
    (fun i hi => by
      have es := cntdR_succ c k.toNat i
      have hl := cntdR_len c k.toNat i
      by_cases e : (befM c k.toNat i : Int) < c.be
      · rw [if_pos e] at es
        exact rcn_L0_p0 (o := cntdR c k.toNat i) (o' := cntdR c k.toNat (i + 1)) (by omega) (inner i hi _) e (by simp; omega) (inR_nat (by omega)) rfl (by rw [es]; simp) (by rw [es]; simp)
      · rw [if_neg e, List.append_nil] at es
        rw [es]
        exact rcn_L0_p1 (by omega) (inner i hi _) (by omega) (inR_nat (by omega)) rfl)
    (rcn_L0_p2 (by omega)) (by simp)
  rw [cntd_ref c k.toNat (by omega)]
  exact rcn_p0 h
def rto_S0 (c : Cup) (k : Int) (i : Nat) (n : Int) : St := ⟨fr 31 [(1, (.p (intP k))), (2, (.ptr 0 0)), (4, (.p (intP 0))), (5, (.p (intsP (countedL c k.toNat)))), (6, (.p (intP n))), (7, (.p (intP (i : Int))))], [some (.box 37 [(.p (intP c.sk)), (.p (intP c.ra)), (.p (intP c.be)), (.p (intsP c.pts)), (.p (rowsP c.done))])]⟩
theorem rto_p0 {c : Cup} {k : Int} {i'0 : Nat} {n'1 : Int} (h0 : KL.Valid c) (h1 : 0 ≤ k ∧ k < c.sk) (hl2 : LoopOK Tryz.prog 0 zU3c9 (rto_S0 c k 0 (0 : Int)) (.exit 0) (rto_S0 c k i'0 n'1)) {base : Nat} : FV Tryz.prog 52 [(.p (cupP c)), (.p (intP k))] base (.p (intP n'1)) [] := by
  exact FV.fin Tryz.func52 rfl (o := [.c (.p (intsP (countedL c k.toNat))) [], .k 6 ⟨(rng [(0, 1), (3, 1), (8, 22)]), [0], [], []⟩ (.exit 0) (rto_S0 c k i'0 n'1)]) (l := [_, FC Tryz.prog 53 [(.p (cupP c)), (.p (intP k))] [] 1 (.p (intsP (countedL c k.toNat))) []]) (by kernel_rfl) (gc hl2.code (gc (FV.fc (rcn_ok c k h0 h1) rfl) gn))
theorem rto_L0_p0 {c : Cup} {k : Int} {i : Nat} {n x100 : Int} {x101 : List Int} {i' : Nat} {n' : Int} (h0 : (i : Int) < (((countedL c k.toNat).length : Nat) : Int)) (h1 : (countedL c k.toNat)[i]? = some x100) (h2 : c.done[x100.toNat]? = some x101) (h3 : 0 ≤ x100) (h4 : KL.Valid c) (h5 : x101.length ≤ 1000) (h6 : ∀ x ∈ x101, 0 ≤ x ∧ x ≤ 60) (h7 : 0 ≤ k ∧ k < x101.length) (h8 : inR (n + (scoreM c.pts x101 k.toNat))) (h9 : inR (((i + 1) : Nat) : Int)) (ei' : i' = (i + 1)) (en' : n' = (n + (scoreM c.pts x101 k.toNat))) : CodeOK Tryz.prog 0 zU3c9 (rto_S0 c k i n) .normal (rto_S0 c k i' n') := by
  subst ei' en'
  exact CodeOK.fin (g := ⟨(rng [(0, 1), (3, 1), (8, 22)]), [0], [], []⟩) (o := [.b true, .x (intP x100), .x (intsP x101), .c (.p (intP (scoreM c.pts x101 k.toNat))) []]) (l := [_, _, FC Tryz.prog 124 [(.p (cupP c)), (.p (intsP x101)), (.p (intP k))] [] 1 (.p (intP (scoreM c.pts x101 k.toNat))) [], (c.done.map intsP)[(x100.toNat * 1)]? = some (intsP x101), 0 ≤ x100 ∧ x100 < (c.done.length : Int) ∧ (x100.toNat * 1) < (c.done.map intsP).length, ((countedL c k.toNat).map intP)[(i * 1)]? = some (intP x100), 0 ≤ (i : Int) ∧ (i : Int) < (((countedL c k.toNat).length : Nat) : Int) ∧ (i * 1) < ((countedL c k.toNat).map intP).length, _]) (by kernel_rfl) (gc h9 (gc h8 (gc (FV.fc (rsc_ok c x101 k h4 h5 h6 h7) rfl) (gc (at_map (i := x100.toNat) h2) (gc (ix_map (i := x100) h3 h2) (gc (at_map (i := i) h1) (gc (ix_map (i := (i : Int)) (Int.natCast_nonneg _) h1) (gc (q_lt h0) gn))))))))
theorem rto_L0_p1 {c : Cup} {k : Int} {i : Nat} {n : Int} (h0 : (((countedL c k.toNat).length : Nat) : Int) ≤ (i : Int)) : CodeOK Tryz.prog 0 zU3c9 (rto_S0 c k i n) (.exit 0) (rto_S0 c k i n) := by
  exact CodeOK.fin (g := ⟨(rng [(0, 1), (3, 1), (8, 22)]), [0], [], []⟩) (o := [.b false]) (l := [_]) (by kernel_rfl) (gc (q_ltF h0) gn)
theorem rto_ok (c : Cup) (k : Int) (hV : KL.Valid c) (hk : 0 ≤ k ∧ k < c.sk) {base : Nat} : FV Tryz.prog 52 [.p (cupP c), .p (intP k)] base (.p (intP (totalM c k.toNat))) [] := by
  have s1 := hV.sk1
  have b1 := hV.be1
  have s2 := hV.sk2
  have hd := hV.small.done
  obtain ⟨L, hL⟩ : ∃ L, L = countedL c k.toNat := ⟨_, rfl⟩
  have hll : L.length ≤ 1000 := by
    rw [hL, cntd_ref c k.toNat (by omega)]
    exact Nat.le_trans (cntdR_len c k.toNat c.done.length) hd
  have hmem : ∀ x ∈ L, 0 ≤ x ∧ x < c.done.length := fun x hx => by
    rw [hL, cntd_ref c k.toNat (by omega)] at hx
    unfold cntdR at hx
    obtain ⟨i, hi, rfl⟩ := List.mem_map.1 hx
    have := List.mem_range.1 (List.mem_filter.1 hi).1
    omega
  have sb : ∀ m, ((L.take m).map fun i => scoreAt c i.toNat k.toNat).sum ≤ 1000 * (min m L.length) ∧ 0 ≤ ((L.take m).map fun i => scoreAt c i.toNat k.toNat).sum := fun m => by
    have := KL.sum_bd ((L.take m).map fun i => scoreAt c i.toNat k.toNat) (fun x hx => by
      obtain ⟨y, _, rfl⟩ := List.mem_map.1 hx
      exact KL.scoreM_bd _ _ _ hV.pts)
    rw [List.length_map, List.length_take] at this
    exact ⟨this.2, this.1⟩
  have h := LoopOK.count (P := Tryz.prog) (k := 0) (b := zU3c9) (e := .exit 0) (R := rto_S0 c k L.length ((L.map fun i => scoreAt c i.toNat k.toNat).sum)) L.length (fun i => rto_S0 c k i (((L.take i).map fun i => scoreAt c i.toNat k.toNat).sum))
    (fun i hi => by
      have hx := List.getElem?_eq_getElem hi
      have hm := hmem _ (List.mem_of_getElem? hx)
      have hr : c.done[L[i].toNat]? = some (c.done.getD L[i].toNat []) := by
        rw [List.getD_eq_getElem?_getD, List.getElem?_eq_getElem (by omega)]; rfl
      have hrm := List.mem_of_getElem? hr
      have hrl := hV.len _ hrm
      have es : ((L.take (i + 1)).map fun i => scoreAt c i.toNat k.toNat).sum = ((L.take i).map fun i => scoreAt c i.toNat k.toNat).sum + scoreM c.pts (c.done.getD L[i].toNat []) k.toNat := by
        rw [List.take_add_one, hx, List.map_append, List.sum_append]
        simp [scoreAt]
      have q := sb (i + 1)
      exact rto_L0_p0 (by rw [← hL]; omega) (by rw [← hL]; exact hx) hr hm.1 hV (by omega) (hV.rows _ hrm) ⟨hk.1, by omega⟩ (by rw [← es]; unfold inR; omega) (inR_nat (by omega)) rfl es)
    (by rw [List.take_length]; exact rto_L0_p1 (by rw [← hL]; omega)) (by simp)
  have ht : totalM c k.toNat = (L.map fun i => scoreAt c i.toNat k.toNat).sum := by rw [hL]; rfl
  rw [ht]
  exact rto_p0 hV hk h
def oft_S0 (c : Cup) (k : Int) (p : Int) (i : Nat) (n : Nat) : St := ⟨fr 29 [(1, (.p (intP k))), (2, (.p (intP p))), (3, (.ptr 0 0)), (6, (.p (intP 0))), (7, (.p (intP (n : Int)))), (8, (.p (intP (i : Int))))], [some (.box 37 [(.p (intP c.sk)), (.p (intP c.ra)), (.p (intP c.be)), (.p (intsP c.pts)), (.p (rowsP c.done))])]⟩
theorem oft_p0 {c : Cup} {k p : Int} {i'0 n'1 : Nat} (hl0 : LoopOK Tryz.prog 0 zU3c6 (oft_S0 c k p 0 0) (.exit 0) (oft_S0 c k p i'0 n'1)) {base : Nat} : FV Tryz.prog 116 [(.p (cupP c)), (.p (intP k)), (.p (intP p))] base (.p (intP (n'1 : Int))) [] := by
  exact FV.fin Tryz.func116 rfl (o := [.k 8 ⟨(rng [(0, 1), (4, 2), (9, 19)]), [0], [], []⟩ (.exit 0) (oft_S0 c k p i'0 n'1)]) (l := [_]) (by kernel_rfl) (gc hl0.code gn)
theorem oft_L0_p0 {c : Cup} {k p : Int} {i n : Nat} {x100 : List Int} {x101 : Int} {i' n' : Nat} (h0 : (i : Int) < (c.done.length : Int)) (h1 : c.done[i]? = some x100) (h2 : x100[k.toNat]? = some x101) (h3 : 0 ≤ k) (h4 : x101 = p) (h5 : inR (((n + 1) : Nat) : Int)) (h6 : inR (((i + 1) : Nat) : Int)) (ei' : i' = (i + 1)) (en' : n' = (n + 1)) : CodeOK Tryz.prog 0 zU3c6 (oft_S0 c k p i n) .normal (oft_S0 c k p i' n') := by
  subst ei' en'
  exact CodeOK.fin (g := ⟨(rng [(0, 1), (4, 2), (9, 19)]), [0], [], []⟩) (o := [.b true, .x (intsP x100), .x (intP x101), .b true]) (l := [_, _, _, (x100.map intP)[(k.toNat * 1)]? = some (intP x101), 0 ≤ k ∧ k < (x100.length : Int) ∧ (k.toNat * 1) < (x100.map intP).length, (c.done.map intsP)[(i * 1)]? = some (intsP x100), 0 ≤ (i : Int) ∧ (i : Int) < (c.done.length : Int) ∧ (i * 1) < (c.done.map intsP).length, _]) (by kernel_rfl) (gc h6 (gc h5 (gc (q_eq h4) (gc (at_map (i := k.toNat) h2) (gc (ix_map (i := k) h3 h2) (gc (at_map (i := i) h1) (gc (ix_map (i := (i : Int)) (Int.natCast_nonneg _) h1) (gc (q_lt h0) gn))))))))
theorem oft_L0_p1 {c : Cup} {k p : Int} {i n : Nat} {x100 : List Int} {x101 : Int} {i' : Nat} (h0 : (i : Int) < (c.done.length : Int)) (h1 : c.done[i]? = some x100) (h2 : x100[k.toNat]? = some x101) (h3 : 0 ≤ k) (h4 : x101 ≠ p) (h5 : inR (((i + 1) : Nat) : Int)) (ei' : i' = (i + 1)) : CodeOK Tryz.prog 0 zU3c6 (oft_S0 c k p i n) .normal (oft_S0 c k p i' n) := by
  subst ei'
  exact CodeOK.fin (g := ⟨(rng [(0, 1), (4, 2), (9, 19)]), [0], [], []⟩) (o := [.b true, .x (intsP x100), .x (intP x101), .b false]) (l := [_, _, (x100.map intP)[(k.toNat * 1)]? = some (intP x101), 0 ≤ k ∧ k < (x100.length : Int) ∧ (k.toNat * 1) < (x100.map intP).length, (c.done.map intsP)[(i * 1)]? = some (intsP x100), 0 ≤ (i : Int) ∧ (i : Int) < (c.done.length : Int) ∧ (i * 1) < (c.done.map intsP).length, _]) (by kernel_rfl) (gc h5 (gc (q_ne h4) (gc (at_map (i := k.toNat) h2) (gc (ix_map (i := k) h3 h2) (gc (at_map (i := i) h1) (gc (ix_map (i := (i : Int)) (Int.natCast_nonneg _) h1) (gc (q_lt h0) gn)))))))
theorem oft_L0_p2 {c : Cup} {k p : Int} {i n : Nat} (h0 : (c.done.length : Int) ≤ (i : Int)) : CodeOK Tryz.prog 0 zU3c6 (oft_S0 c k p i n) (.exit 0) (oft_S0 c k p i n) := by
  exact CodeOK.fin (g := ⟨(rng [(0, 1), (4, 2), (9, 19)]), [0], [], []⟩) (o := [.b false]) (l := [_]) (by kernel_rfl) (gc (q_ltF h0) gn)
def cntI (c : Cup) (s : Nat) (p : Int) : Nat := c.done.countP fun r => decide (r.getD s 0 = p)
theorem oft_ok (c : Cup) (k p : Int) (hV : KL.Valid c) (hk : 0 ≤ k ∧ k < c.sk) {base : Nat} : FV Tryz.prog 116 [.p (cupP c), .p (intP k), .p (intP p)] base (.p (intP ((cntI c k.toNat p : Nat) : Int))) [] := by
  have hd := hV.small.done
  have h := LoopOK.count (P := Tryz.prog) (k := 0) (b := zU3c6) (e := .exit 0) (R := oft_S0 c k p c.done.length (cntI c k.toNat p)) c.done.length (fun i => oft_S0 c k p i ((c.done.take i).countP fun r => decide (r.getD k.toNat 0 = p)))
    (fun i hi => by
      have hx := List.getElem?_eq_getElem hi
      have hl := hV.len _ (List.mem_of_getElem? hx)
      have hy : (c.done[i])[k.toNat]? = some ((c.done[i]).getD k.toNat 0) := by
        rw [List.getD_eq_getElem?_getD, List.getElem?_eq_getElem (by omega)]; rfl
      have hb : ((c.done.take i).countP fun r => decide (r.getD k.toNat 0 = p)) ≤ 1000 := Nat.le_trans List.countP_le_length (by simp; omega)
      have es : ((c.done.take (i + 1)).countP fun r => decide (r.getD k.toNat 0 = p)) = ((c.done.take i).countP fun r => decide (r.getD k.toNat 0 = p)) + if (c.done[i]).getD k.toNat 0 = p then 1 else 0 := by
        rw [List.take_succ_eq_append_getElem hi, List.countP_append, List.countP_singleton]
        simp
      by_cases e : (c.done[i]).getD k.toNat 0 = p
      · rw [if_pos e] at es
        exact oft_L0_p0 (by omega) hx hy hk.1 e (inR_nat (by omega)) (inR_nat (by omega)) rfl es
      · rw [if_neg e, Nat.add_zero] at es
        rw [es]
        exact oft_L0_p1 (by omega) hx hy hk.1 e (inR_nat (by omega)) rfl)
    (by rw [List.take_length]; exact oft_L0_p2 (by omega)) (by simp)
  exact oft_p0 h
def rbt_S0 (c : Cup) (a : Int) (b : Int) (p : Nat) : St := ⟨fr 42 [(1, (.p (intP a))), (2, (.p (intP b))), (3, (.ptr 0 0)), (9, (.p (intP (p : Int))))], [some (.box 37 [(.p (intP c.sk)), (.p (intP c.ra)), (.p (intP c.be)), (.p (intsP c.pts)), (.p (rowsP c.done))])]⟩
theorem rbt_p0 {c : Cup} {a b : Int} {r0 : Bool} (h0 : KL.Valid c) (h1 : 0 ≤ a ∧ a < c.sk) (h2 : 0 ≤ b ∧ b < c.sk) (h3 : (totalM c a.toNat) ≠ (totalM c b.toNat)) (er0 : r0 = (decide ((totalM c a.toNat) > (totalM c b.toNat)))) {base : Nat} : FV Tryz.prog 48 [(.p (cupP c)), (.p (intP a)), (.p (intP b))] base (.p (blP r0)) [] := by
  subst er0
  exact FV.fin Tryz.func48 rfl (o := [.c (.p (intP (totalM c a.toNat))) [], .c (.p (intP (totalM c b.toNat))) [], .b true]) (l := [_, FC Tryz.prog 52 [(.p (cupP c)), (.p (intP b))] [] 5 (.p (intP (totalM c b.toNat))) [], FC Tryz.prog 52 [(.p (cupP c)), (.p (intP a))] [] 1 (.p (intP (totalM c a.toNat))) []]) (by kernel_rfl) (gc (q_neT h3) (gc (FV.fc (rto_ok c b h0 h2) rfl) (gc (FV.fc (rto_ok c a h0 h1) rfl) gn)))
theorem rbt_p1 {c : Cup} {a b : Int} {p'0 : Nat} (h0 : KL.Valid c) (h1 : 0 ≤ a ∧ a < c.sk) (h2 : 0 ≤ b ∧ b < c.sk) (h3 : (totalM c a.toNat) = (totalM c b.toNat)) (hl4 : LoopOK Tryz.prog 0 zU3c5 (rbt_S0 c a b 1) (.exit 0) (rbt_S0 c a b p'0)) {base : Nat} : FV Tryz.prog 48 [(.p (cupP c)), (.p (intP a)), (.p (intP b))] base (.p (blP false)) [] := by
  exact FV.fin Tryz.func48 rfl (o := [.c (.p (intP (totalM c a.toNat))) [], .c (.p (intP (totalM c b.toNat))) [], .b false, .k 4 ⟨(rng [(0, 1), (4, 5), (10, 32)]), [0], [], []⟩ (.exit 0) (rbt_S0 c a b p'0)]) (l := [_, _, FC Tryz.prog 52 [(.p (cupP c)), (.p (intP b))] [] 5 (.p (intP (totalM c b.toNat))) [], FC Tryz.prog 52 [(.p (cupP c)), (.p (intP a))] [] 1 (.p (intP (totalM c a.toNat))) []]) (by kernel_rfl) (gc hl4.code (gc (q_neF h3) (gc (FV.fc (rto_ok c b h0 h2) rfl) (gc (FV.fc (rto_ok c a h0 h1) rfl) gn))))
theorem rbt_p2 {c : Cup} {a b : Int} {p'0 : Nat} {r0 : Bool} (h0 : KL.Valid c) (h1 : 0 ≤ a ∧ a < c.sk) (h2 : 0 ≤ b ∧ b < c.sk) (h3 : (totalM c a.toNat) = (totalM c b.toNat)) (hl4 : LoopOK Tryz.prog 0 zU3c5 (rbt_S0 c a b 1) .ret (setS (rbt_S0 c a b p'0) [(6, (.p (blP (decide (((cntI c b.toNat (p'0 : Int) : Nat) : Int) < ((cntI c a.toNat (p'0 : Int) : Nat) : Int))))))])) (er0 : r0 = (decide (((cntI c b.toNat (p'0 : Int) : Nat) : Int) < ((cntI c a.toNat (p'0 : Int) : Nat) : Int)))) {base : Nat} : FV Tryz.prog 48 [(.p (cupP c)), (.p (intP a)), (.p (intP b))] base (.p (blP r0)) [] := by
  subst er0
  exact FV.fin Tryz.func48 rfl (o := [.c (.p (intP (totalM c a.toNat))) [], .c (.p (intP (totalM c b.toNat))) [], .b false, .k 4 ⟨(rng [(0, 1), (4, 5), (10, 32)]), [0], [], []⟩ .ret (setS (rbt_S0 c a b p'0) [(6, (.p (blP (decide (((cntI c b.toNat (p'0 : Int) : Nat) : Int) < ((cntI c a.toNat (p'0 : Int) : Nat) : Int))))))])]) (l := [_, _, FC Tryz.prog 52 [(.p (cupP c)), (.p (intP b))] [] 5 (.p (intP (totalM c b.toNat))) [], FC Tryz.prog 52 [(.p (cupP c)), (.p (intP a))] [] 1 (.p (intP (totalM c a.toNat))) []]) (by kernel_rfl) (gc hl4.code (gc (q_neF h3) (gc (FV.fc (rto_ok c b h0 h2) rfl) (gc (FV.fc (rto_ok c a h0 h1) rfl) gn))))
theorem rbt_L0_p0 {c : Cup} {a b : Int} {p : Nat} (h0 : (p : Int) ≤ (60 : Int)) (h1 : KL.Valid c) (h2 : 0 ≤ a ∧ a < c.sk) (h3 : 0 ≤ b ∧ b < c.sk) (h4 : ((cntI c a.toNat (p : Int) : Nat) : Int) ≠ ((cntI c b.toNat (p : Int) : Nat) : Int)) : CodeOK Tryz.prog 0 zU3c5 (rbt_S0 c a b p) .ret (setS (rbt_S0 c a b p) [(6, (.p (blP (decide (((cntI c a.toNat (p : Int) : Nat) : Int) > ((cntI c b.toNat (p : Int) : Nat) : Int))))))]) := by
  exact CodeOK.fin (g := ⟨(rng [(0, 1), (4, 2), (7, 2), (10, 32)]), [0], [], []⟩) (o := [.b true, .c (.p (intP ((cntI c a.toNat (p : Int) : Nat) : Int))) [], .c (.p (intP ((cntI c b.toNat (p : Int) : Nat) : Int))) [], .b true]) (l := [_, FC Tryz.prog 116 [(.p (cupP c)), (.p (intP b)), (.p (intP (p : Int)))] [] 5 (.p (intP ((cntI c b.toNat (p : Int) : Nat) : Int))) [], FC Tryz.prog 116 [(.p (cupP c)), (.p (intP a)), (.p (intP (p : Int)))] [] 1 (.p (intP ((cntI c a.toNat (p : Int) : Nat) : Int))) [], _]) (by kernel_rfl) (gc (q_neT h4) (gc (FV.fc (oft_ok c b (p : Int) h1 h3) rfl) (gc (FV.fc (oft_ok c a (p : Int) h1 h2) rfl) (gc (q_le h0) gn))))
theorem rbt_L0_p1 {c : Cup} {a b : Int} {p p' : Nat} (h0 : (p : Int) ≤ (60 : Int)) (h1 : KL.Valid c) (h2 : 0 ≤ a ∧ a < c.sk) (h3 : 0 ≤ b ∧ b < c.sk) (h4 : ((cntI c a.toNat (p : Int) : Nat) : Int) = ((cntI c b.toNat (p : Int) : Nat) : Int)) (h5 : inR (((p + 1) : Nat) : Int)) (ep' : p' = (p + 1)) : CodeOK Tryz.prog 0 zU3c5 (rbt_S0 c a b p) .normal (rbt_S0 c a b p') := by
  subst ep'
  exact CodeOK.fin (g := ⟨(rng [(0, 1), (4, 5), (10, 32)]), [0], [], []⟩) (o := [.b true, .c (.p (intP ((cntI c a.toNat (p : Int) : Nat) : Int))) [], .c (.p (intP ((cntI c b.toNat (p : Int) : Nat) : Int))) [], .b false]) (l := [_, _, FC Tryz.prog 116 [(.p (cupP c)), (.p (intP b)), (.p (intP (p : Int)))] [] 5 (.p (intP ((cntI c b.toNat (p : Int) : Nat) : Int))) [], FC Tryz.prog 116 [(.p (cupP c)), (.p (intP a)), (.p (intP (p : Int)))] [] 1 (.p (intP ((cntI c a.toNat (p : Int) : Nat) : Int))) [], _]) (by kernel_rfl) (gc h5 (gc (q_neF h4) (gc (FV.fc (oft_ok c b (p : Int) h1 h3) rfl) (gc (FV.fc (oft_ok c a (p : Int) h1 h2) rfl) (gc (q_le h0) gn)))))
theorem rbt_L0_p2 {c : Cup} {a b : Int} {p : Nat} (h0 : (60 : Int) < (p : Int)) : CodeOK Tryz.prog 0 zU3c5 (rbt_S0 c a b p) (.exit 0) (rbt_S0 c a b p) := by
  exact CodeOK.fin (g := ⟨(rng [(0, 1), (4, 5), (10, 32)]), [0], [], []⟩) (o := [.b false]) (l := [_]) (by kernel_rfl) (gc (q_leF h0) gn)
theorem rbt_ok (c : Cup) (a b : Int) (hV : KL.Valid c) (ha : 0 ≤ a ∧ a < c.sk) (hb : 0 ≤ b ∧ b < c.sk) {base : Nat} : FV Tryz.prog 48 [.p (cupP c), .p (intP a), .p (intP b)] base (.p (blP (betS c a.toNat b.toNat))) [] := by
  unfold betS KL.betterF
  by_cases h0 : totalM c a.toNat = totalM c b.toNat
  · rw [if_pos h0]
    have pl : ∀ (s i : Nat), i < 60 → (placesM c s).getD (i + 1) 0 = ((cntI c s ((i + 1 : Nat) : Int) : Nat) : Int) := fun s i hi => places_at (by omega) (by omega)
    rcases LoopOK.find (P := Tryz.prog) (k := 0) (b := zU3c5) (fun i => rbt_S0 c a b (i + 1)) (fun i _ => setS (rbt_S0 c a b (i + 1)) [(6, .p (blP (decide (((cntI c b.toNat ((i + 1 : Nat) : Int) : Nat) : Int) < ((cntI c a.toNat ((i + 1 : Nat) : Int) : Nat) : Int)))))]) (rbt_S0 c a b 61) .ret (.exit 0) (by simp) (by simp) (fun i => decide (cntI c a.toNat ((i + 1 : Nat) : Int) ≠ cntI c b.toNat ((i + 1 : Nat) : Int))) (List.range 60)
      (fun i x hx hp => by
        obtain ⟨rfl, hi⟩ := range_at hx
        have hp' : cntI c a.toNat ((x + 1 : Nat) : Int) = cntI c b.toNat ((x + 1 : Nat) : Int) := by simpa using hp
        exact rbt_L0_p1 (by omega) hV ha hb (by rw [hp']) (inR_nat (by omega)) rfl)
      (fun i x hx hp => by
        obtain ⟨rfl, hi⟩ := range_at hx
        have hp' : cntI c a.toNat ((x + 1 : Nat) : Int) ≠ cntI c b.toNat ((x + 1 : Nat) : Int) := by simpa using hp
        exact rbt_L0_p0 (by omega) hV ha hb (by omega))
      (by rw [List.length_range]; exact rbt_L0_p2 (by omega)) with ⟨i, x, h1, h2, h3, h4⟩ | ⟨h1, h2, h3⟩
    · obtain ⟨rfl, hi⟩ := range_at h1
      have h3' : cntI c a.toNat ((x + 1 : Nat) : Int) ≠ cntI c b.toNat ((x + 1 : Nat) : Int) := by simpa using h3
      obtain ⟨_, _, hbf⟩ := List.findIdx?_eq_some_iff_getElem.1 h2
      rw [lex_first hi (by rw [pl _ _ hi, pl _ _ hi]; omega) (fun j hj => by
        have := hbf j hj
        rw [List.getElem_range] at this
        have e : cntI c a.toNat ((j + 1 : Nat) : Int) = cntI c b.toNat ((j + 1 : Nat) : Int) := by simpa using this
        rw [pl _ _ (by omega), pl _ _ (by omega), e]), pl _ _ hi, pl _ _ hi]
      exact rbt_p2 hV ha hb h0 h4 rfl
    · rw [lex_none (fun j hj => by
        have := List.any_eq_false.1 h2 j (List.mem_range.2 hj)
        have e : cntI c a.toNat ((j + 1 : Nat) : Int) = cntI c b.toNat ((j + 1 : Nat) : Int) := by simpa using this
        rw [pl _ _ hj, pl _ _ hj, e])]
      exact rbt_p1 hV ha hb h0 h3
  · rw [if_neg h0]
    exact rbt_p0 hV ha hb h0 rfl
def rrk_S0 (c : Cup) (k : Int) (s : Nat) (n : Int) : St := ⟨fr 20 [(1, (.p (intP k))), (2, (.ptr 0 0)), (4, (.p (intP 0))), (5, (.p (intP n))), (6, (.p (intP (s : Int))))], [some (.box 37 [(.p (intP c.sk)), (.p (intP c.ra)), (.p (intP c.be)), (.p (intsP c.pts)), (.p (rowsP c.done))])]⟩
theorem rrk_p0 {c : Cup} {k : Int} {s'0 : Nat} {n'1 : Int} (hl0 : LoopOK Tryz.prog 0 zU3c7 (rrk_S0 c k 0 (1 : Int)) (.exit 0) (rrk_S0 c k s'0 n'1)) {base : Nat} : FV Tryz.prog 61 [(.p (cupP c)), (.p (intP k))] base (.p (intP n'1)) [] := by
  exact FV.fin Tryz.func61 rfl (o := [.k 8 ⟨(rng [(0, 1), (3, 1), (7, 12)]), [0], [], []⟩ (.exit 0) (rrk_S0 c k s'0 n'1)]) (l := [_]) (by kernel_rfl) (gc hl0.code gn)
theorem rrk_L0_p0 {c : Cup} {k : Int} {s : Nat} {n : Int} {s' : Nat} {n' : Int} (h0 : (s : Int) < c.sk) (h1 : KL.Valid c) (h2 : 0 ≤ (s : Int) ∧ (s : Int) < c.sk) (h3 : 0 ≤ k ∧ k < c.sk) (h4 : (betS c (s : Int).toNat k.toNat) = true) (h5 : inR (n + (1 : Int))) (h6 : inR (((s + 1) : Nat) : Int)) (es' : s' = (s + 1)) (en' : n' = (n + (1 : Int))) : CodeOK Tryz.prog 0 zU3c7 (rrk_S0 c k s n) .normal (rrk_S0 c k s' n') := by
  subst es' en'
  exact CodeOK.fin (g := ⟨(rng [(0, 1), (3, 1), (7, 12)]), [0], [], []⟩) (o := [.b true, .c (.p (blP (betS c (s : Int).toNat k.toNat))) [], .b true]) (l := [_, _, _, FC Tryz.prog 48 [(.p (cupP c)), (.p (intP (s : Int))), (.p (intP k))] [] 1 (.p (blP (betS c (s : Int).toNat k.toNat))) [], _]) (by kernel_rfl) (gc h6 (gc h5 (gc h4 (gc (FV.fc (rbt_ok c (s : Int) k h1 h2 h3) rfl) (gc (q_lt h0) gn)))))
theorem rrk_L0_p1 {c : Cup} {k : Int} {s : Nat} {n : Int} {s' : Nat} (h0 : (s : Int) < c.sk) (h1 : KL.Valid c) (h2 : 0 ≤ (s : Int) ∧ (s : Int) < c.sk) (h3 : 0 ≤ k ∧ k < c.sk) (h4 : (betS c (s : Int).toNat k.toNat) = false) (h5 : inR (((s + 1) : Nat) : Int)) (es' : s' = (s + 1)) : CodeOK Tryz.prog 0 zU3c7 (rrk_S0 c k s n) .normal (rrk_S0 c k s' n) := by
  subst es'
  exact CodeOK.fin (g := ⟨(rng [(0, 1), (3, 1), (7, 12)]), [0], [], []⟩) (o := [.b true, .c (.p (blP (betS c (s : Int).toNat k.toNat))) [], .b false]) (l := [_, _, FC Tryz.prog 48 [(.p (cupP c)), (.p (intP (s : Int))), (.p (intP k))] [] 1 (.p (blP (betS c (s : Int).toNat k.toNat))) [], _]) (by kernel_rfl) (gc h5 (gc h4 (gc (FV.fc (rbt_ok c (s : Int) k h1 h2 h3) rfl) (gc (q_lt h0) gn))))
theorem rrk_L0_p2 {c : Cup} {k : Int} {s : Nat} {n : Int} (h0 : c.sk ≤ (s : Int)) : CodeOK Tryz.prog 0 zU3c7 (rrk_S0 c k s n) (.exit 0) (rrk_S0 c k s n) := by
  exact CodeOK.fin (g := ⟨(rng [(0, 1), (3, 1), (7, 12)]), [0], [], []⟩) (o := [.b false]) (l := [_]) (by kernel_rfl) (gc (q_ltF h0) gn)
theorem rrk_ok (c : Cup) (k : Int) (hV : KL.Valid c) (hk : 0 ≤ k ∧ k < c.sk) {base : Nat} : FV Tryz.prog 61 [.p (cupP c), .p (intP k)] base (.p (intP (rankM c k.toNat))) [] := by
  have s1 := hV.sk1
  have s2 := hV.sk2
  have h := LoopOK.count (P := Tryz.prog) (k := 0) (b := zU3c7) (e := .exit 0) (R := rrk_S0 c k c.sk.toNat (bttrUp c k.toNat c.sk.toNat)) c.sk.toNat (fun i => rrk_S0 c k i (bttrUp c k.toNat i))
    (fun i hi => by
      have hb : 1 ≤ bttrUp c k.toNat i ∧ bttrUp c k.toNat i ≤ 1 + i := by
        unfold bttrUp
        have := List.countP_le_length (p := fun x => betS c x k.toNat) (l := List.range i)
        rw [List.length_range] at this
        omega
      have es : bttrUp c k.toNat (i + 1) = bttrUp c k.toNat i + if betS c i k.toNat = true then 1 else 0 := by
        unfold bttrUp
        rw [List.range_succ, List.countP_append, List.countP_singleton]
        split <;> omega
      cases e : betS c i k.toNat with
      | true =>
        rw [if_pos e] at es
        exact rrk_L0_p0 (by omega) hV (by omega) hk e (by unfold inR; omega) (inR_nat (by omega)) rfl es
      | false =>
        rw [if_neg (by rw [e]; simp), Int.add_zero] at es
        rw [es]
        exact rrk_L0_p1 (by omega) hV (by omega) hk e (inR_nat (by omega)) rfl)
    (rrk_L0_p2 (by omega)) (by simp)
  rw [rank_ref]
  have e0 : bttrUp c k.toNat 0 = 1 := by unfold bttrUp; simp
  rw [e0] at h
  exact rrk_p0 h
def rtb_S0 (c : Cup) (r : Nat) (on : Nat) (oc : List PV) : St := ⟨fr 36 [(1, (.ptr 0 0)), (2, (.p nilS)), (3, (.own 1)), (4, (.p (intP (r : Int))))], [some (.box 37 [(.p (intP c.sk)), (.p (intP c.ra)), (.p (intP c.be)), (.p (intsP c.pts)), (.p (rowsP c.done))]), some (.row 78 on oc)]⟩
theorem rtb_p0 {c : Cup} {r'0 : Nat} {o'1 : List (List Int)} (hl0 : LoopOK Tryz.prog 0 zU3c8 (rtb_S0 c 1 0 []) (.exit 0) (rtb_S0 c r'0 o'1.length (o'1.flatten.map intP))) {base : Nat} : FV Tryz.prog 47 [(.p (cupP c))] base (.p (.sl o'1.length (o'1.flatten.map intP))) [] := by
  exact FV.frz (FMM.fin (k := 0) (g := ⟨[], [], [1], []⟩) rfl Tryz.func47 rfl (o := [.k 8 ⟨(rng [(0, 1), (5, 30)]), [0, 1], [], [(3, 78)]⟩ (.exit 0) (rtb_S0 c r'0 o'1.length (o'1.flatten.map intP))]) (l := [_]) (by kernel_rfl) (gc hl0.code gn)) (by kernel_rfl)
def rtb_S1 (c : Cup) (r : Nat) (s : Nat) (qn : Nat) (qc : List PV) : St := ⟨fr 36 [(1, (.ptr 0 0)), (2, (.p nilS)), (3, (.own 1)), (4, (.p (intP (r : Int)))), (5, (.p (intP (s : Int)))), (6, (.p (intP (r : Int)))), (7, (.ptr 0 0)), (8, (.p (intP c.sk))), (9, (.p (blP (decide ((r : Int) ≤ c.sk)))))], [some (.box 37 [(.p (intP c.sk)), (.p (intP c.ra)), (.p (intP c.be)), (.p (intsP c.pts)), (.p (rowsP c.done))]), some (.row 78 qn qc)]⟩
theorem rtb_L0_p0 {c : Cup} {r : Nat} {o : List (List Int)} {s'100 : Nat} {q'101 : List (List Int)} {r' : Nat} {o' : List (List Int)} (h0 : (r : Int) ≤ c.sk) (hl1 : LoopOK Tryz.prog 0 zU3c2 (rtb_S1 c r 0 o.length (o.flatten.map intP)) (.exit 2) (rtb_S1 c r s'100 q'101.length (q'101.flatten.map intP))) (h2 : inR (((r + 1) : Nat) : Int)) (er' : r' = (r + 1)) (eo'n : o'.length = q'101.length) (eo'c : o'.flatten.map intP = (q'101.flatten.map intP)) : CodeOK Tryz.prog 0 zU3c8 (rtb_S0 c r o.length (o.flatten.map intP)) .normal (rtb_S0 c r' o'.length (o'.flatten.map intP)) := by
  subst er'
  have raw : CodeOK Tryz.prog 0 zU3c8 (rtb_S0 c r o.length (o.flatten.map intP)) .normal (rtb_S0 c (r + 1) q'101.length (q'101.flatten.map intP)) := CodeOK.fin (g := ⟨(rng [(0, 1), (5, 30)]), [0, 1], [], []⟩) (o := [.b true, .k 5 ⟨(rng [(0, 1), (12, 23)]), [0, 1], [], []⟩ (.exit 2) (rtb_S1 c r s'100 q'101.length (q'101.flatten.map intP))]) (l := [_, _, _]) (by kernel_rfl) (gc h2 (gc hl1.code (gc (q_le h0) gn)))
  exact raw.cast (by rw [eo'n, eo'c])
theorem rtb_L0_p1 {c : Cup} {r : Nat} {o : List (List Int)} (h0 : c.sk < (r : Int)) : CodeOK Tryz.prog 0 zU3c8 (rtb_S0 c r o.length (o.flatten.map intP)) (.exit 0) (rtb_S0 c r o.length (o.flatten.map intP)) := by
  exact CodeOK.fin (g := ⟨(rng [(0, 1), (5, 30)]), [0, 1], [], []⟩) (o := [.b false]) (l := [_]) (by kernel_rfl) (gc (q_leF h0) gn)
theorem rtb_L1_p0 {c : Cup} {r s : Nat} {q : List (List Int)} {s' : Nat} {q' : List (List Int)} (h0 : (s : Int) < c.sk) (h1 : KL.Valid c) (h2 : 0 ≤ (s : Int) ∧ (s : Int) < c.sk) (h3 : (rankM c (s : Int).toNat) = (r : Int)) (h4 : [(intP (s : Int)), (intP (r : Int)), (intP (totalM c (s : Int).toNat)), (intP ((cntI c (s : Int).toNat (1 : Int) : Nat) : Int))].length = 1 * 4 ∧ q.length + 1 ≤ 1000000) (h5 : inR (((s + 1) : Nat) : Int)) (es' : s' = (s + 1)) (eq'n : q'.length = (q.length + 1)) (eq'c : q'.flatten.map intP = ((q.flatten.map intP) ++ [(intP (s : Int)), (intP (r : Int)), (intP (totalM c (s : Int).toNat)), (intP ((cntI c (s : Int).toNat (1 : Int) : Nat) : Int))])) : CodeOK Tryz.prog 0 zU3c2 (rtb_S1 c r s q.length (q.flatten.map intP)) .normal (rtb_S1 c r s' q'.length (q'.flatten.map intP)) := by
  subst es'
  have raw : CodeOK Tryz.prog 0 zU3c2 (rtb_S1 c r s q.length (q.flatten.map intP)) .normal (rtb_S1 c r (s + 1) (q.length + 1) ((q.flatten.map intP) ++ [(intP (s : Int)), (intP (r : Int)), (intP (totalM c (s : Int).toNat)), (intP ((cntI c (s : Int).toNat (1 : Int) : Nat) : Int))])) := CodeOK.fin (g := ⟨(rng [(0, 1), (12, 23)]), [0, 11], [], []⟩) (o := [.b true, .c (.p (intP (rankM c (s : Int).toNat))) [], .b true, .c (.p (intP (totalM c (s : Int).toNat))) [], .c (.p (intP ((cntI c (s : Int).toNat (1 : Int) : Nat) : Int))) []]) (l := [_, _, [(intP (s : Int)), (intP (r : Int)), (intP (totalM c (s : Int).toNat)), (intP ((cntI c (s : Int).toNat (1 : Int) : Nat) : Int))].length = 4, FC Tryz.prog 116 [(.p (cupP c)), (.p (intP (s : Int))), (.p (intP 1))] [] 6 (.p (intP ((cntI c (s : Int).toNat (1 : Int) : Nat) : Int))) [], FC Tryz.prog 52 [(.p (cupP c)), (.p (intP (s : Int)))] [] 2 (.p (intP (totalM c (s : Int).toNat))) [], _, FC Tryz.prog 61 [(.p (cupP c)), (.p (intP (s : Int)))] [] 2 (.p (intP (rankM c (s : Int).toNat))) [], _]) (by kernel_rfl) (gc h5 (gc h4 (gc (by first | decide | simp) (gc (FV.fc (oft_ok c (s : Int) (1 : Int) h1 h2) rfl) (gc (FV.fc (rto_ok c (s : Int) h1 h2) rfl) (gc (q_eq h3) (gc (FV.fc (rrk_ok c (s : Int) h1 h2) rfl) (gc (q_lt h0) gn))))))))
  exact raw.cast (by rw [eq'n, eq'c])
theorem rtb_L1_p1 {c : Cup} {r s : Nat} {q : List (List Int)} {s' : Nat} (h0 : (s : Int) < c.sk) (h1 : KL.Valid c) (h2 : 0 ≤ (s : Int) ∧ (s : Int) < c.sk) (h3 : (rankM c (s : Int).toNat) ≠ (r : Int)) (h4 : inR (((s + 1) : Nat) : Int)) (es' : s' = (s + 1)) : CodeOK Tryz.prog 0 zU3c2 (rtb_S1 c r s q.length (q.flatten.map intP)) .normal (rtb_S1 c r s' q.length (q.flatten.map intP)) := by
  subst es'
  exact CodeOK.fin (g := ⟨(rng [(0, 1), (12, 23)]), [0, 1], [], []⟩) (o := [.b true, .c (.p (intP (rankM c (s : Int).toNat))) [], .b false]) (l := [_, _, FC Tryz.prog 61 [(.p (cupP c)), (.p (intP (s : Int)))] [] 2 (.p (intP (rankM c (s : Int).toNat))) [], _]) (by kernel_rfl) (gc h4 (gc (q_ne h3) (gc (FV.fc (rrk_ok c (s : Int) h1 h2) rfl) (gc (q_lt h0) gn))))
theorem rtb_L1_p2 {c : Cup} {r s : Nat} {q : List (List Int)} (h0 : c.sk ≤ (s : Int)) : CodeOK Tryz.prog 0 zU3c2 (rtb_S1 c r s q.length (q.flatten.map intP)) (.exit 2) (rtb_S1 c r s q.length (q.flatten.map intP)) := by
  exact CodeOK.fin (g := ⟨(rng [(0, 1), (12, 23)]), [0, 1], [], []⟩) (o := [.b false]) (l := [_]) (by kernel_rfl) (gc (q_ltF h0) gn)
theorem rkL_len (c : Cup) (r n : Nat) : (rkL c r n).length ≤ n := by
  unfold rkL
  rw [List.length_map]
  exact Nat.le_trans (List.length_filter_le _ _) (by simp)
theorem tabR_len (c : Cup) : ∀ n, (tabR c n).length ≤ n * c.sk.toNat
  | 0 => by simp [tabR]
  | n + 1 => by
    rw [tabR_succ, List.length_append, Nat.succ_mul]
    have := rkL_len c n c.sk.toNat
    have := tabR_len c n
    omega
theorem rtb_ok (c : Cup) (hV : KL.Valid c) {base : Nat} : FV Tryz.prog 47 [.p (cupP c)] base (.p (.sl (tableM c).length ((tableM c).flatten.map intP))) [] := by
  have s1 := hV.sk1
  have s2 := hV.sk2
  have inner : ∀ i, i < c.sk.toNat → LoopOK Tryz.prog 0 zU3c2 (rtb_S1 c (i + 1) 0 (tabR c i).length ((tabR c i).flatten.map intP)) (.exit 2) (rtb_S1 c (i + 1) c.sk.toNat (tabR c (i + 1)).length ((tabR c (i + 1)).flatten.map intP)) := fun i hi => by
    have ht := tabR_len c i
    have hm : i * c.sk.toNat ≤ 12 * 12 := Nat.mul_le_mul (by omega) (by omega)
    have := LoopOK.count (P := Tryz.prog) (k := 0) (b := zU3c2) (e := .exit 2) (R := rtb_S1 c (i + 1) c.sk.toNat (tabR c i ++ rkL c i c.sk.toNat).length ((tabR c i ++ rkL c i c.sk.toNat).flatten.map intP)) c.sk.toNat (fun s => rtb_S1 c (i + 1) s (tabR c i ++ rkL c i s).length ((tabR c i ++ rkL c i s).flatten.map intP))
      (fun s hs => by
        have hr := rkL_len c i s
        have es := rkL_succ c i s
        by_cases e : rankM c s = (i : Int) + 1
        · rw [if_pos e] at es
          have er : rowT c s = [(s : Int), ((i + 1 : Nat) : Int), totalM c s, ((cntI c s (1 : Int) : Nat) : Int)] := by
            unfold rowT
            rw [e, places_at (by omega) (by omega)]
            rfl
          have eq : tabR c i ++ rkL c i (s + 1) = (tabR c i ++ rkL c i s) ++ [rowT c s] := by rw [es, List.append_assoc]
          exact rtb_L1_p0 (q := tabR c i ++ rkL c i s) (q' := tabR c i ++ rkL c i (s + 1)) (by omega) hV (by omega) (by show rankM c s = ((i + 1 : Nat) : Int); omega) ⟨rfl, by simp; omega⟩ (inR_nat (by omega)) rfl (by rw [eq]; simp; omega) (by rw [eq, List.flatten_append, List.map_append, er]; rfl)
        · rw [if_neg e, List.append_nil] at es
          rw [es]
          exact rtb_L1_p1 (q := tabR c i ++ rkL c i s) (by omega) hV (by omega) (by show rankM c s ≠ ((i + 1 : Nat) : Int); omega) (inR_nat (by omega)) rfl)
      (rtb_L1_p2 (q := tabR c i ++ rkL c i c.sk.toNat) (by omega)) (by simp)
    have e0 : rkL c i 0 = [] := by simp [rkL]
    rw [e0, List.append_nil, ← tabR_succ] at this
    exact this
  have h := LoopOK.count (P := Tryz.prog) (k := 0) (b := zU3c8) (e := .exit 0) (R := rtb_S0 c (c.sk.toNat + 1) (tabR c c.sk.toNat).length ((tabR c c.sk.toNat).flatten.map intP)) c.sk.toNat (fun i => rtb_S0 c (i + 1) (tabR c i).length ((tabR c i).flatten.map intP))
    (fun i hi => rtb_L0_p0 (o := tabR c i) (o' := tabR c (i + 1)) (by omega) (inner i hi) (inR_nat (by omega)) rfl rfl rfl)
    (rtb_L0_p1 (o := tabR c c.sk.toNat) (by omega)) (by simp)
  rw [table_ref]
  exact rtb_p0 h
theorem rwi_p0 {c : Cup} {f : List (List Int)} {r0n : Nat} {r0c : List PV} (h0 : (c.done.map intsP).length = c.done.length * 1 ∧ 0 + c.done.length ≤ 1000000) (h1 : (f.map intsP).length = f.length * 1 ∧ (0 + c.done.length) + f.length ≤ 1000000) (er0n : r0n = ((0 + c.done.length) + f.length)) (er0c : r0c = ((c.done.map intsP) ++ (f.map intsP))) {base : Nat} : FV Tryz.prog 77 [(.p (cupP c)), (.p (rowsP f))] base (.p (.agg [(intP c.sk), (intP c.ra), (intP c.be), (intsP c.pts), (.sl r0n r0c)])) [] := by
  subst er0n er0c
  exact FV.frz (FMM.fin (k := 0) (g := ⟨[], [], [5], []⟩) rfl Tryz.func77 rfl (o := []) (l := [_, _]) (by kernel_rfl) (gc h1 (gc h0 gn))) (by kernel_rfl)
theorem rwi_ok (c : Cup) (f : List (List Int)) (h : c.done.length + f.length ≤ 1000) {base : Nat} : FV Tryz.prog 77 [.p (cupP c), .p (rowsP f)] base (.p (cupP (withC c f))) [] :=
  rwi_p0 (r0n := (c.done ++ f).length) (r0c := (c.done ++ f).map intsP) (by simp; omega) (by simp; omega) (by simp) (by simp)
theorem raf_p0 {c : Cup} {f : List (List Int)} {r0 : Int} (h0 : KL.Small c) (h1 : (checkP c) ≠ (0 : Int)) (er0 : r0 = (checkP c)) {base : Nat} : FV Tryz.prog 45 [(.p (cupP c)), (.p (rowsP f))] base (.tup [(.p (.agg [(intP 0), (intP 0), (intP 0), nilS, nilS])), (.p (intP r0))]) [] := by
  subst er0
  exact FV.fin Tryz.func45 rfl (o := [.c (.p (intP (checkP c))) [], .b true]) (l := [_, FC Tryz.prog 43 [(.p (cupP c))] [] 2 (.p (intP (checkP c))) []]) (by kernel_rfl) (gc (q_neT h1) (gc (FV.fc (chk_ok c h0) rfl) gn))
theorem raf_p1 {c : Cup} {f : List (List Int)} {r0 : Int} (h0 : KL.Small c) (h1 : (checkP c) = (0 : Int)) (h2 : c.done.length + f.length ≤ 1000) (h3 : KL.Small (withC c f)) (h4 : (checkP (withC c f)) ≠ (0 : Int)) (er0 : r0 = (checkP (withC c f))) {base : Nat} : FV Tryz.prog 45 [(.p (cupP c)), (.p (rowsP f))] base (.tup [(.p (.agg [(intP 0), (intP 0), (intP 0), nilS, nilS])), (.p (intP r0))]) [] := by
  subst er0
  exact FV.fin Tryz.func45 rfl (o := [.c (.p (intP (checkP c))) [], .b false, .c (.p (.agg [(intP ((withC c f).sk)), (intP ((withC c f).ra)), (intP ((withC c f).be)), (intsP ((withC c f).pts)), (rowsP ((withC c f).done))])) [], .c (.p (intP (checkP (withC c f)))) [], .b true]) (l := [_, FC Tryz.prog 43 [(.p (.agg [(intP ((withC c f).sk)), (intP ((withC c f).ra)), (intP ((withC c f).be)), (intsP ((withC c f).pts)), (rowsP ((withC c f).done))]))] [] 3 (.p (intP (checkP (withC c f)))) [], FC Tryz.prog 77 [(.p (cupP c)), (.p (rowsP f))] [] 2 (.p (.agg [(intP ((withC c f).sk)), (intP ((withC c f).ra)), (intP ((withC c f).be)), (intsP ((withC c f).pts)), (rowsP ((withC c f).done))])) [], _, FC Tryz.prog 43 [(.p (cupP c))] [] 2 (.p (intP (checkP c))) []]) (by kernel_rfl) (gc (q_neT h4) (gc (FV.fc (chk_ok (withC c f) h3) rfl) (gc (FV.fc (rwi_ok c f h2) rfl) (gc (q_neF h1) (gc (FV.fc (chk_ok c h0) rfl) gn)))))
theorem raf_p2 {c : Cup} {f : List (List Int)} (h0 : KL.Small c) (h1 : (checkP c) = (0 : Int)) (h2 : c.done.length + f.length ≤ 1000) (h3 : KL.Small (withC c f)) (h4 : (checkP (withC c f)) = (0 : Int)) {base : Nat} : FV Tryz.prog 45 [(.p (cupP c)), (.p (rowsP f))] base (.tup [(.p (.agg [(intP ((withC c f).sk)), (intP ((withC c f).ra)), (intP ((withC c f).be)), (intsP ((withC c f).pts)), (rowsP ((withC c f).done))])), (.p (intP 0))]) [] := by
  exact FV.fin Tryz.func45 rfl (o := [.c (.p (intP (checkP c))) [], .b false, .c (.p (.agg [(intP ((withC c f).sk)), (intP ((withC c f).ra)), (intP ((withC c f).be)), (intsP ((withC c f).pts)), (rowsP ((withC c f).done))])) [], .c (.p (intP (checkP (withC c f)))) [], .b false]) (l := [_, FC Tryz.prog 43 [(.p (.agg [(intP ((withC c f).sk)), (intP ((withC c f).ra)), (intP ((withC c f).be)), (intsP ((withC c f).pts)), (rowsP ((withC c f).done))]))] [] 3 (.p (intP (checkP (withC c f)))) [], FC Tryz.prog 77 [(.p (cupP c)), (.p (rowsP f))] [] 2 (.p (.agg [(intP ((withC c f).sk)), (intP ((withC c f).ra)), (intP ((withC c f).be)), (intsP ((withC c f).pts)), (rowsP ((withC c f).done))])) [], _, FC Tryz.prog 43 [(.p (cupP c))] [] 2 (.p (intP (checkP c))) []]) (by kernel_rfl) (gc (q_neF h4) (gc (FV.fc (chk_ok (withC c f) h3) rfl) (gc (FV.fc (rwi_ok c f h2) rfl) (gc (q_neF h1) (gc (FV.fc (chk_ok c h0) rfl) gn)))))
abbrev zeroC : PV := .agg [intP 0, intP 0, intP 0, nilS, nilS]
theorem raf_e1 (c : Cup) (f : List (List Int)) (hS : KL.Small c) (h : checkP c ≠ 0) {base : Nat} : FV Tryz.prog 45 [.p (cupP c), .p (rowsP f)] base (.tup [.p zeroC, .p (intP (checkP c))]) [] := raf_p0 hS h rfl
theorem raf_e2 (c : Cup) (f : List (List Int)) (hV : KL.Valid c) (hS : KL.Small (withC c f)) (h : checkP (withC c f) ≠ 0) {base : Nat} : FV Tryz.prog 45 [.p (cupP c), .p (rowsP f)] base (.tup [.p zeroC, .p (intP (checkP (withC c f)))]) [] :=
  raf_p1 hV.small ((KL.valid_iff c).2 hV) (by have := hS.done; rwa [show (withC c f).done = c.done ++ f from rfl, List.length_append] at this) hS h rfl
theorem raf_ok (c : Cup) (f : List (List Int)) (hV : KL.Valid c) (hW : KL.Valid (withC c f)) {base : Nat} : FV Tryz.prog 45 [.p (cupP c), .p (rowsP f)] base (.tup [.p (cupP (withC c f)), .p (intP 0)]) [] :=
  raf_p2 hV.small ((KL.valid_iff c).2 hV) (by have := hW.small.done; rwa [show (withC c f).done = c.done ++ f from rfl, List.length_append] at this) hW.small ((KL.valid_iff _).2 hW)
def grt_S0 (c : Cup) (i : Nat) : St := ⟨fr 39 [(29, (.p (rowsP c.done))), (30, (.p (intP (c.done.length : Int)))), (31, (.p (intP (i : Int))))], []⟩
theorem grt_p0 {c : Cup} {k : Int} (h0 : k < c.sk) (h1 : c.sk ≤ (12 : Int)) {base : Nat} : FV Tryz.prog 18 [(.p (cupP c)), (.p (intP k))] base (.p (blP true)) [] := by
  exact FV.fin Tryz.func18 rfl (o := [.b true, .b true, .b true, .b true, .b true, .b true, .b true, .b true, .b true]) (l := [_, _, _, _, _, _, _, _, _]) (by kernel_rfl) (gc (q_le h1) (gc (q_le h1) (gc (q_le h1) (gc (q_le h1) (gc (q_le h1) (gc (q_lt h0) (gc (q_lt h0) (gc (q_lt h0) (gc (q_lt h0) gn)))))))))
theorem grt_p1 {c : Cup} {k : Int} (h0 : k < c.sk) (h1 : (12 : Int) < c.sk) (h2 : (65 : Int) < (c.pts.length : Int)) {base : Nat} : FV Tryz.prog 18 [(.p (cupP c)), (.p (intP k))] base (.p (blP true)) [] := by
  exact FV.fin Tryz.func18 rfl (o := [.b true, .b true, .b true, .b true, .b false, .b false, .b false, .b false, .b false, .b true, .b true, .b true, .b true, .b true]) (l := [_, _, _, _, _, _, _, _, _, _, _, _, _, _]) (by kernel_rfl) (gc (q_lt h2) (gc (q_lt h2) (gc (q_lt h2) (gc (q_lt h2) (gc (q_lt h2) (gc (q_leF h1) (gc (q_leF h1) (gc (q_leF h1) (gc (q_leF h1) (gc (q_leF h1) (gc (q_lt h0) (gc (q_lt h0) (gc (q_lt h0) (gc (q_lt h0) gn))))))))))))))
theorem grt_p2 {c : Cup} {k : Int} (h0 : k < c.sk) (h1 : (12 : Int) < c.sk) (h2 : (c.pts.length : Int) ≤ (65 : Int)) (h3 : (25 : Int) < (c.done.length : Int)) {base : Nat} : FV Tryz.prog 18 [(.p (cupP c)), (.p (intP k))] base (.p (blP true)) [] := by
  exact FV.fin Tryz.func18 rfl (o := [.b true, .b true, .b true, .b true, .b false, .b false, .b false, .b false, .b false, .b false, .b false, .b false, .b false, .b false, .b true]) (l := [_, _, _, _, _, _, _, _, _, _, _, _, _, _, _]) (by kernel_rfl) (gc (q_lt h3) (gc (q_ltF h2) (gc (q_ltF h2) (gc (q_ltF h2) (gc (q_ltF h2) (gc (q_ltF h2) (gc (q_leF h1) (gc (q_leF h1) (gc (q_leF h1) (gc (q_leF h1) (gc (q_leF h1) (gc (q_lt h0) (gc (q_lt h0) (gc (q_lt h0) (gc (q_lt h0) gn)))))))))))))))
theorem grt_p3 {c : Cup} {k : Int} {i'0 : Nat} (h0 : k < c.sk) (h1 : (12 : Int) < c.sk) (h2 : (c.pts.length : Int) ≤ (65 : Int)) (h3 : (c.done.length : Int) ≤ (25 : Int)) (hl4 : LoopOK Tryz.prog 0 zU3c0 (grt_S0 c 0) (.exit 0) (grt_S0 c i'0)) {base : Nat} : FV Tryz.prog 18 [(.p (cupP c)), (.p (intP k))] base (.p (blP false)) [] := by
  exact FV.fin Tryz.func18 rfl (o := [.b true, .b true, .b true, .b true, .b false, .b false, .b false, .b false, .b false, .b false, .b false, .b false, .b false, .b false, .b false, .k 4 ⟨(rng [(0, 29), (32, 7)]), [], [], []⟩ (.exit 0) (grt_S0 c i'0)]) (l := [_, _, _, _, _, _, _, _, _, _, _, _, _, _, _, _]) (by kernel_rfl) (gc hl4.code (gc (q_ltF h3) (gc (q_ltF h2) (gc (q_ltF h2) (gc (q_ltF h2) (gc (q_ltF h2) (gc (q_ltF h2) (gc (q_leF h1) (gc (q_leF h1) (gc (q_leF h1) (gc (q_leF h1) (gc (q_leF h1) (gc (q_lt h0) (gc (q_lt h0) (gc (q_lt h0) (gc (q_lt h0) gn))))))))))))))))
theorem grt_p4 {c : Cup} {k : Int} {i'0 : Nat} (h0 : k < c.sk) (h1 : (12 : Int) < c.sk) (h2 : (c.pts.length : Int) ≤ (65 : Int)) (h3 : (c.done.length : Int) ≤ (25 : Int)) (hl4 : LoopOK Tryz.prog 0 zU3c0 (grt_S0 c 0) .ret (setS (grt_S0 c i'0) [(4, (.kb true))])) {base : Nat} : FV Tryz.prog 18 [(.p (cupP c)), (.p (intP k))] base (.p (blP true)) [] := by
  exact FV.fin Tryz.func18 rfl (o := [.b true, .b true, .b true, .b true, .b false, .b false, .b false, .b false, .b false, .b false, .b false, .b false, .b false, .b false, .b false, .k 4 ⟨(rng [(0, 29), (32, 7)]), [], [], []⟩ .ret (setS (grt_S0 c i'0) [(4, (.kb true))])]) (l := [_, _, _, _, _, _, _, _, _, _, _, _, _, _, _, _]) (by kernel_rfl) (gc hl4.code (gc (q_ltF h3) (gc (q_ltF h2) (gc (q_ltF h2) (gc (q_ltF h2) (gc (q_ltF h2) (gc (q_ltF h2) (gc (q_leF h1) (gc (q_leF h1) (gc (q_leF h1) (gc (q_leF h1) (gc (q_leF h1) (gc (q_lt h0) (gc (q_lt h0) (gc (q_lt h0) (gc (q_lt h0) gn))))))))))))))))
theorem grt_p5 {c : Cup} {k : Int} (h0 : c.sk ≤ k) (h1 : (65 : Int) < (c.pts.length : Int)) {base : Nat} : FV Tryz.prog 18 [(.p (cupP c)), (.p (intP k))] base (.p (blP true)) [] := by
  exact FV.fin Tryz.func18 rfl (o := [.b false, .b false, .b false, .b false, .b true, .b true, .b true, .b true, .b true]) (l := [_, _, _, _, _, _, _, _, _]) (by kernel_rfl) (gc (q_lt h1) (gc (q_lt h1) (gc (q_lt h1) (gc (q_lt h1) (gc (q_lt h1) (gc (q_ltF h0) (gc (q_ltF h0) (gc (q_ltF h0) (gc (q_ltF h0) gn)))))))))
theorem grt_p6 {c : Cup} {k : Int} (h0 : c.sk ≤ k) (h1 : (c.pts.length : Int) ≤ (65 : Int)) (h2 : (25 : Int) < (c.done.length : Int)) {base : Nat} : FV Tryz.prog 18 [(.p (cupP c)), (.p (intP k))] base (.p (blP true)) [] := by
  exact FV.fin Tryz.func18 rfl (o := [.b false, .b false, .b false, .b false, .b false, .b false, .b false, .b false, .b false, .b true]) (l := [_, _, _, _, _, _, _, _, _, _]) (by kernel_rfl) (gc (q_lt h2) (gc (q_ltF h1) (gc (q_ltF h1) (gc (q_ltF h1) (gc (q_ltF h1) (gc (q_ltF h1) (gc (q_ltF h0) (gc (q_ltF h0) (gc (q_ltF h0) (gc (q_ltF h0) gn))))))))))
theorem grt_p7 {c : Cup} {k : Int} {i'0 : Nat} (h0 : c.sk ≤ k) (h1 : (c.pts.length : Int) ≤ (65 : Int)) (h2 : (c.done.length : Int) ≤ (25 : Int)) (hl3 : LoopOK Tryz.prog 0 zU3c0 (grt_S0 c 0) (.exit 0) (grt_S0 c i'0)) {base : Nat} : FV Tryz.prog 18 [(.p (cupP c)), (.p (intP k))] base (.p (blP false)) [] := by
  exact FV.fin Tryz.func18 rfl (o := [.b false, .b false, .b false, .b false, .b false, .b false, .b false, .b false, .b false, .b false, .k 4 ⟨(rng [(0, 29), (32, 7)]), [], [], []⟩ (.exit 0) (grt_S0 c i'0)]) (l := [_, _, _, _, _, _, _, _, _, _, _]) (by kernel_rfl) (gc hl3.code (gc (q_ltF h2) (gc (q_ltF h1) (gc (q_ltF h1) (gc (q_ltF h1) (gc (q_ltF h1) (gc (q_ltF h1) (gc (q_ltF h0) (gc (q_ltF h0) (gc (q_ltF h0) (gc (q_ltF h0) gn)))))))))))
theorem grt_p8 {c : Cup} {k : Int} {i'0 : Nat} (h0 : c.sk ≤ k) (h1 : (c.pts.length : Int) ≤ (65 : Int)) (h2 : (c.done.length : Int) ≤ (25 : Int)) (hl3 : LoopOK Tryz.prog 0 zU3c0 (grt_S0 c 0) .ret (setS (grt_S0 c i'0) [(4, (.kb true))])) {base : Nat} : FV Tryz.prog 18 [(.p (cupP c)), (.p (intP k))] base (.p (blP true)) [] := by
  exact FV.fin Tryz.func18 rfl (o := [.b false, .b false, .b false, .b false, .b false, .b false, .b false, .b false, .b false, .b false, .k 4 ⟨(rng [(0, 29), (32, 7)]), [], [], []⟩ .ret (setS (grt_S0 c i'0) [(4, (.kb true))])]) (l := [_, _, _, _, _, _, _, _, _, _, _]) (by kernel_rfl) (gc hl3.code (gc (q_ltF h2) (gc (q_ltF h1) (gc (q_ltF h1) (gc (q_ltF h1) (gc (q_ltF h1) (gc (q_ltF h1) (gc (q_ltF h0) (gc (q_ltF h0) (gc (q_ltF h0) (gc (q_ltF h0) gn)))))))))))
theorem grt_L0_p0 {c : Cup} {i : Nat} {x100 : List Int} (h0 : (i : Int) < (c.done.length : Int)) (h1 : c.done[i]? = some x100) (h2 : (16 : Int) < (x100.length : Int)) : CodeOK Tryz.prog 0 zU3c0 (grt_S0 c i) .ret (setS (grt_S0 c i) [(4, (.kb true))]) := by
  exact CodeOK.fin (g := ⟨(rng [(0, 4), (5, 24), (32, 7)]), [], [], []⟩) (o := [.b true, .x (intsP x100), .b true]) (l := [_, (c.done.map intsP)[(i * 1)]? = some (intsP x100), 0 ≤ (i : Int) ∧ (i : Int) < (c.done.length : Int) ∧ (i * 1) < (c.done.map intsP).length, _]) (by kernel_rfl) (gc (q_lt h2) (gc (at_map (i := i) h1) (gc (ix_map (i := (i : Int)) (Int.natCast_nonneg _) h1) (gc (q_lt h0) gn))))
theorem grt_L0_p1 {c : Cup} {i : Nat} {x100 : List Int} {i' : Nat} (h0 : (i : Int) < (c.done.length : Int)) (h1 : c.done[i]? = some x100) (h2 : (x100.length : Int) ≤ (16 : Int)) (h3 : inR (((i + 1) : Nat) : Int)) (ei' : i' = (i + 1)) : CodeOK Tryz.prog 0 zU3c0 (grt_S0 c i) .normal (grt_S0 c i') := by
  subst ei'
  exact CodeOK.fin (g := ⟨(rng [(0, 29), (32, 7)]), [], [], []⟩) (o := [.b true, .x (intsP x100), .b false]) (l := [_, _, (c.done.map intsP)[(i * 1)]? = some (intsP x100), 0 ≤ (i : Int) ∧ (i : Int) < (c.done.length : Int) ∧ (i * 1) < (c.done.map intsP).length, _]) (by kernel_rfl) (gc h3 (gc (q_ltF h2) (gc (at_map (i := i) h1) (gc (ix_map (i := (i : Int)) (Int.natCast_nonneg _) h1) (gc (q_lt h0) gn)))))
theorem grt_L0_p2 {c : Cup} {i : Nat} (h0 : (c.done.length : Int) ≤ (i : Int)) : CodeOK Tryz.prog 0 zU3c0 (grt_S0 c i) (.exit 0) (grt_S0 c i) := by
  exact CodeOK.fin (g := ⟨(rng [(0, 29), (32, 7)]), [], [], []⟩) (o := [.b false]) (l := [_]) (by kernel_rfl) (gc (q_ltF h0) gn)
def grtB (c : Cup) (k : Int) : Bool := (decide (k < c.sk) && decide (c.sk ≤ 12)) || decide (65 < c.pts.length) || decide (25 < c.done.length) || c.done.any fun r => decide (16 < r.length)
theorem grt_loop (c : Cup) (hl : c.done.length ≤ 25) : ((c.done.any fun r => decide (16 < r.length)) = true ∧ ∃ i, LoopOK Tryz.prog 0 zU3c0 (grt_S0 c 0) .ret (setS (grt_S0 c i) [(4, .kb true)])) ∨ ((c.done.any fun r => decide (16 < r.length)) = false ∧ ∃ i, LoopOK Tryz.prog 0 zU3c0 (grt_S0 c 0) (.exit 0) (grt_S0 c i)) := by
  rcases LoopOK.find (P := Tryz.prog) (k := 0) (b := zU3c0) (fun i => grt_S0 c i) (fun i _ => setS (grt_S0 c i) [(4, .kb true)]) (grt_S0 c c.done.length) .ret (.exit 0) (by simp) (by simp) (fun r : List Int => decide (16 < r.length)) c.done
    (fun i x hx hp => grt_L0_p1 (by have := lt_of_at hx; omega) hx (by have := of_decide_eq_false hp; omega) (inR_nat (by have := lt_of_at hx; omega)) rfl)
    (fun i x hx hp => grt_L0_p0 (by have := lt_of_at hx; omega) hx (by have := of_decide_eq_true hp; omega))
    (grt_L0_p2 (by omega)) with ⟨j, y, g1, g2, g3, g4⟩ | ⟨_, g1, g2⟩
  · exact .inl ⟨List.any_eq_true.2 ⟨y, List.mem_of_getElem? g1, g3⟩, _, g4⟩
  · exact .inr ⟨g1, _, g2⟩
theorem grt_ok (c : Cup) (k : Int) {base : Nat} : FV Tryz.prog 18 [.p (cupP c), .p (intP k)] base (.p (blP (grtB c k))) [] := by
  unfold grtB
  by_cases a1 : k < c.sk
  · by_cases a2 : c.sk ≤ 12
    · simp only [a1, a2, decide_true, Bool.and_true, Bool.true_or]
      exact grt_p0 a1 a2
    · by_cases a3 : 65 < c.pts.length
      · simp only [a2, a3, decide_true, decide_false, Bool.and_false, Bool.false_or, Bool.true_or]
        exact grt_p1 a1 (by omega) (by omega)
      · by_cases a4 : 25 < c.done.length
        · simp only [a2, a3, a4, decide_true, decide_false, Bool.and_false, Bool.false_or, Bool.true_or]
          exact grt_p2 a1 (by omega) (by omega) (by omega)
        · simp only [a2, a3, a4, decide_false, Bool.and_false, Bool.false_or]
          rcases grt_loop c (by omega) with ⟨e, i, h⟩ | ⟨e, i, h⟩
          · rw [e]; exact grt_p4 a1 (by omega) (by omega) (by omega) h
          · rw [e]; exact grt_p3 a1 (by omega) (by omega) (by omega) h
  · by_cases a3 : 65 < c.pts.length
    · simp only [a1, a3, decide_true, decide_false, Bool.false_and, Bool.false_or, Bool.true_or]
      exact grt_p5 (by omega) (by omega)
    · by_cases a4 : 25 < c.done.length
      · simp only [a1, a3, a4, decide_true, decide_false, Bool.false_and, Bool.false_or, Bool.true_or]
        exact grt_p6 (by omega) (by omega) (by omega)
      · simp only [a1, a3, a4, decide_false, Bool.false_and, Bool.false_or]
        rcases grt_loop c (by omega) with ⟨e, i, h⟩ | ⟨e, i, h⟩
        · rw [e]; exact grt_p8 (by omega) (by omega) (by omega) h
        · rw [e]; exact grt_p7 (by omega) (by omega) (by omega) h
theorem grt_small {c : Cup} {k : Int} (h : grtB c k = false) : KL.Small c ∧ c.pts.length ≤ 65 ∧ c.done.length ≤ 25 ∧ (∀ r ∈ c.done, r.length ≤ 16) ∧ (c.sk ≤ k ∨ 12 < c.sk) := by
  unfold grtB at h
  simp only [Bool.or_eq_false_iff, Bool.and_eq_false_iff, decide_eq_false_iff_not, List.any_eq_false, decide_eq_true_eq] at h
  obtain ⟨⟨⟨h1, h2⟩, h3⟩, h4⟩ := h
  have h5 : ∀ r ∈ c.done, r.length ≤ 16 := fun r hr => by have := h4 r hr; omega
  exact ⟨⟨by omega, by omega, fun r hr => by have := h5 r hr; omega⟩, by omega, by omega, h5, by omega⟩
def eqa_S0 (a : List (List Int)) (i : Nat) : St := ⟨fr 27 [(0, (.p (rowsP a))), (1, (.p (rowsP a))), (12, (.p (intP (a.length : Int)))), (13, (.p (intP (i : Int))))], []⟩
theorem eqa_p0 {a : List (List Int)} {i'0 : Nat} (h0 : (a.length : Int) = (a.length : Int)) (hl1 : LoopOK Tryz.prog 0 zU3c10 (eqa_S0 a 0) (.exit 0) (eqa_S0 a i'0)) {base : Nat} : FV Tryz.prog 46 [(.p (rowsP a)), (.p (rowsP a))] base (.p (blP true)) [] := by
  exact FV.fin Tryz.func46 rfl (o := [.b false, .k 4 ⟨(rng [(2, 10), (14, 13)]), [], [], []⟩ (.exit 0) (eqa_S0 a i'0)]) (l := [_, _]) (by kernel_rfl) (gc hl1.code (gc (q_neF h0) gn))
theorem eqa_L0_p1 {a : List (List Int)} {i : Nat} {x100 : List Int} {i' : Nat} (h0 : (i : Int) < (a.length : Int)) (h1 : a[i]? = some x100) (h2 : x100.length ≤ 100000) (h3 : (decide (x100 = x100)) = true) (h4 : inR (((i + 1) : Nat) : Int)) (ei' : i' = (i + 1)) : CodeOK Tryz.prog 0 zU3c10 (eqa_S0 a i) .normal (eqa_S0 a i') := by
  subst ei'
  exact CodeOK.fin (g := ⟨(rng [(2, 10), (14, 13)]), [], [], []⟩) (o := [.b true, .x (intsP x100), .x (intsP x100), .c (.p (blP (decide (x100 = x100)))) [], .b false]) (l := [_, _, FC Tryz.prog 25 [(.p (intsP x100)), (.p (intsP x100))] [] 0 (.p (blP (decide (x100 = x100)))) [], (a.map intsP)[(i * 1)]? = some (intsP x100), 0 ≤ (i : Int) ∧ (i : Int) < (a.length : Int) ∧ (i * 1) < (a.map intsP).length, (a.map intsP)[(i * 1)]? = some (intsP x100), 0 ≤ (i : Int) ∧ (i : Int) < (a.length : Int) ∧ (i * 1) < (a.map intsP).length, _]) (by kernel_rfl) (gc h4 (gc (q_notF h3) (gc (FV.fc (eqi_ok x100 x100 h2) rfl) (gc (at_map (i := i) h1) (gc (ix_map (i := (i : Int)) (Int.natCast_nonneg _) h1) (gc (at_map (i := i) h1) (gc (ix_map (i := (i : Int)) (Int.natCast_nonneg _) h1) (gc (q_lt h0) gn))))))))
theorem eqa_L0_p2 {a : List (List Int)} {i : Nat} (h0 : (a.length : Int) ≤ (i : Int)) : CodeOK Tryz.prog 0 zU3c10 (eqa_S0 a i) (.exit 0) (eqa_S0 a i) := by
  exact CodeOK.fin (g := ⟨(rng [(2, 10), (14, 13)]), [], [], []⟩) (o := [.b false]) (l := [_]) (by kernel_rfl) (gc (q_ltF h0) gn)
theorem eqa_ok (a b : List (List Int)) (hb : b = a) (hl : a.length ≤ 1000 ∧ ∀ r ∈ a, r.length ≤ 1000) {base : Nat} : FV Tryz.prog 46 [.p (rowsP a), .p (rowsP b)] base (.p (blP true)) [] := by
  subst hb
  have h := LoopOK.count (P := Tryz.prog) (k := 0) (b := zU3c10) (e := .exit 0) (R := eqa_S0 b b.length) b.length (fun i => eqa_S0 b i)
    (fun i hi => eqa_L0_p1 (by omega) (List.getElem?_eq_getElem hi) (by have := hl.2 _ (List.getElem_mem hi); omega) (by simp) (inR_nat (by have := hl.1; omega)) rfl)
    (eqa_L0_p2 (by omega)) (by simp)
  exact eqa_p0 rfl h
theorem sam_p0 {c : Cup} (h0 : c.sk = c.sk) (h1 : c.ra = c.ra) (h2 : c.be = c.be) (h3 : c.pts.length ≤ 100000) (h4 : (decide (c.pts = c.pts)) = true) (h5 : c.done = c.done) (h6 : c.done.length ≤ 1000 ∧ ∀ r ∈ c.done, r.length ≤ 1000) {base : Nat} : FV Tryz.prog 24 [(.p (cupP c)), (.p (cupP c))] base (.p (blP true)) [] := by
  exact FV.fin Tryz.func24 rfl (o := [.b true, .b true, .b true, .b true, .b true, .b true, .b true, .b true, .b true, .b true, .b true, .b true, .b true, .b true, .b true, .b true, .b true, .c (.p (blP (decide (c.pts = c.pts)))) [], .b true, .b true, .b true, .b true, .b true, .b true, .c (.p (blP true)) [], .b true]) (l := [_, FC Tryz.prog 46 [(.p (rowsP c.done)), (.p (rowsP c.done))] [] 2 (.p (blP true)) [], _, _, _, _, _, _, FC Tryz.prog 25 [(.p (intsP c.pts)), (.p (intsP c.pts))] [] 2 (.p (blP (decide (c.pts = c.pts)))) [], _, _, _, _, _, _, _, _, _, _, _, _, _, _, _, _, _]) (by kernel_rfl) (gc h4 (gc (FV.fc (eqa_ok c.done c.done h5 h6) rfl) (gc h4 (gc h4 (gc h4 (gc h4 (gc h4 (gc (q_eq h2) (gc (FV.fc (eqi_ok c.pts c.pts h3) rfl) (gc (q_eq h2) (gc (q_eq h2) (gc (q_eq h2) (gc (q_eq h2) (gc (q_eq h2) (gc (q_eq h1) (gc (q_eq h1) (gc (q_eq h1) (gc (q_eq h1) (gc (q_eq h1) (gc (q_eq h1) (gc (q_eq h0) (gc (q_eq h0) (gc (q_eq h0) (gc (q_eq h0) (gc (q_eq h0) (gc (q_eq h0) gn))))))))))))))))))))))))))
theorem sam_ok (c d : Cup) (h : d = c) (hS : KL.Small c) {base : Nat} : FV Tryz.prog 24 [.p (cupP c), .p (cupP d)] base (.p (blP true)) [] := by
  subst h
  exact sam_p0 rfl rfl rfl (by have := hS.pts; omega) (by simp) rfl ⟨hS.done, hS.rows⟩
end
section
open KL
theorem chk0 (c : Cup) (hV : KL.Valid c) {base : Nat} : FV Tryz.prog 43 [.p (cupP c)] base (.p (intP 0)) [] := by
  have := chk_ok c hV.small (base := base)
  rwa [(KL.valid_iff c).2 hV] at this
theorem named_inv {c : Cup} (k : Int) (h : checkP c ≠ 0) : namedE c k = checkP c := by unfold namedE; rw [if_pos h]
theorem named_out {c : Cup} (hV : KL.Valid c) {k : Int} (h : k < 0 ∨ c.sk ≤ k) : namedE c k = 1 := by
  unfold namedE
  rw [if_neg (fun q => q ((KL.valid_iff c).2 hV)), if_neg (by simp [within]; omega)]
theorem totalsUp_succ (c : Cup) (n : Nat) : KL.totalsUp c (n + 1) = KL.totalsUp c n ++ [totalM c n] := by
  unfold KL.totalsUp
  rw [List.range_succ, List.map_append]; rfl
end
section
open KL
noncomputable abbrev zU5c0 : Code := sub (cd Tryz.f8) [1, 1, 1, 1, 1, 1, 1, 1, 1, 1, 1, 0, 1, 0, 0]
theorem better3_err (c : Cup) (hS : KL.Small c) (a b : Int) (h : checkP c ≠ 0) {base : Nat} : FV Tryz.prog 35 [.p (cupP c), .p (intP a), .p (intP b)] base (.tup [.p (blP false), .p (intP (checkP c))]) [] := by
  have e := named_inv a h
  have := bttrE_p3 (c := c) (k := a) (m := b) hS (by rw [e]; exact h) rfl (base := base)
  rwa [e] at this
theorem better3_out (c : Cup) (hV : KL.Valid c) (a b : Int) (h : ¬ (0 ≤ a ∧ a < c.sk ∧ 0 ≤ b ∧ b < c.sk)) {base : Nat} : FV Tryz.prog 35 [.p (cupP c), .p (intP a), .p (intP b)] base (.tup [.p (blP false), .p (intP 1)]) [] := by
  have s1 := hV.sk1
  have s2 := hV.sk2
  by_cases ha : 0 ≤ a ∧ a < c.sk
  · exact bttrE_p0 hV.small (named_in hV ha.1 ha.2) (by unfold inR; omega) (by simp [within]; omega)
  · have e := named_out hV (k := a) (by omega)
    have := bttrE_p3 (c := c) (k := a) (m := b) hV.small (by rw [e]; omega) rfl (base := base)
    rwa [e] at this
theorem better3_ok (c : Cup) (hV : KL.Valid c) (a b : Int) (ha : 0 ≤ a ∧ a < c.sk) (hb : 0 ≤ b ∧ b < c.sk) {base : Nat} : FV Tryz.prog 35 [.p (cupP c), .p (intP a), .p (intP b)] base (.tup [.p (blP (betS c a.toNat b.toNat)), .p (intP 0)]) [] := by
  have := better2_ok c hV a.toNat b.toNat (by omega) (by omega) (base := base)
  rwa [Int.toNat_of_nonneg ha.1, Int.toNat_of_nonneg hb.1] at this
theorem after3_e1 (c : Cup) (f : List (List Int)) (hS : KL.Small c) (h : checkP c ≠ 0) {base : Nat} : FV Tryz.prog 44 [.p (cupP c), .p (rowsP f)] base (.tup [.p zeroC, .p (intP (checkP c))]) [] := after_p0 hS h rfl
theorem small_with {c : Cup} {f : List (List Int)} (hS : KL.Small (withC c f)) : c.done.length + f.length ≤ 1000 ∧ ∀ r ∈ c.done ++ f, r.length ≤ 1000 := by
  have := hS.done
  rw [show (withC c f).done = c.done ++ f from rfl, List.length_append] at this
  exact ⟨this, hS.rows⟩
theorem check_many {c : Cup} {f : List (List Int)} (hV : KL.Valid c) (h : 20 < f.length) : checkP (withC c f) = 2 := by
  have h1 := hV.sk1
  have h2 := hV.sk2
  have h3 := hV.ra1
  have h4 := hV.ra2
  have h5 := hV.be1
  have h6 := hV.be2
  rw [chk_eq]
  show (if (outB c.sk 1 12 || outB c.ra 1 20 || outB c.be 1 c.ra) = true then (3 : Int) else if (outB c.pts.length 1 60 || decide (c.ra < (c.done ++ f).length) || (c.done ++ f).any (fun r => decide ((r.length : Int) ≠ c.sk))) = true then 2 else _) = 2
  rw [if_neg (by simp [outB]; omega), if_pos]
  rw [Bool.or_eq_true, Bool.or_eq_true]
  exact .inl (.inr (decide_eq_true (by rw [List.length_append]; omega)))
theorem after3_e2 (c : Cup) (f : List (List Int)) (hV : KL.Valid c) (hS : KL.Small (withC c f)) (h : checkP (withC c f) ≠ 0) {base : Nat} : FV Tryz.prog 44 [.p (cupP c), .p (rowsP f)] base (.tup [.p zeroC, .p (intP (checkP (withC c f)))]) [] := by
  obtain ⟨q1, q2⟩ := small_with hS
  by_cases e : 20 < f.length
  · rw [check_many hV e]
    exact after_p1 hV.small ((KL.valid_iff c).2 hV) (by omega)
  · exact after_p2 hV.small ((KL.valid_iff c).2 hV) (by omega) hV.small.pts q1 q2 hS h rfl
theorem after3_ok (c : Cup) (f : List (List Int)) (hV : KL.Valid c) (hW : KL.Valid (withC c f)) {base : Nat} : FV Tryz.prog 44 [.p (cupP c), .p (rowsP f)] base (.tup [.p (cupP (withC c f)), .p (intP 0)]) [] := by
  obtain ⟨q1, q2⟩ := small_with hW.small
  have d1 := hW.dn
  have d2 := hW.ra2
  rw [show (withC c f).done = c.done ++ f from rfl, List.length_append] at d1
  rw [show (withC c f).ra = c.ra from rfl] at d1 d2
  exact after_ok c f hV (by omega) hW
theorem cla3_ok (f : List (List Int)) (h : KL.Small ⟨0, 0, 0, [], f⟩) {base : Nat} : FV Tryz.prog 42 [.p (rowsP f)] base (.p (rowsP f)) [] := cla_ok f h.done h.rows
theorem eqa3_ok (a b : List (List Int)) (hb : b = a) (h : KL.Small ⟨0, 0, 0, [], a⟩) {base : Nat} : FV Tryz.prog 46 [.p (rowsP a), .p (rowsP b)] base (.p (blP true)) [] := eqa_ok a b hb ⟨h.done, h.rows⟩
theorem FC.wk {P : Program} {f base : Nat} {args l l' : List AV} {bs : List (Nat × AO)} {L : Upd} (h : FC P f args bs base (.tup l) L) (e : l.map wk1 = l') : FC P f args bs base (.tup l') L := fun M hb hf C w us hus hM n => by
  subst e
  refine (h M hb hf C w us hus hM n).mono ?_
  rintro e w' ⟨u, rfl, C', hF, hM', hr⟩
  refine ⟨u, rfl, C', hF, hM', ?_⟩
  cases hr with
  | tup _ vs h1 h2 => exact .tup _ vs (by simpa using h1) (fun i hi => by
      have hi' : i < l.length := by simpa using hi
      simpa using wk1_rep (h2 i hi'))
theorem tbG_p0 {c : Cup} {a b : Int} {f : List (List Int)} (h0 : (grtB c (12 : Int)) = true) {base : Nat} : FV Tryz.prog 8 [(.p (cupP c)), (.p (intP a)), (.p (intP b)), (.p (rowsP f))] base (.p (blP true)) [] := by
  exact FV.fin Tryz.func8 rfl (o := [.c (.p (blP (grtB c (12 : Int)))) [], .b true, .b true, .b true, .b true, .c (.p (blP true)) []]) (l := [FC Tryz.prog 19 [] [] 1 (.p (blP true)) [], _, _, _, _, FC Tryz.prog 18 [(.p (cupP c)), (.p (intP 12))] [] 1 (.p (blP (grtB c (12 : Int)))) []]) (by kernel_rfl) (gc (FV.fc (awake_ok _) rfl) (gc h0 (gc h0 (gc h0 (gc h0 (gc (FV.fc (grt_ok c (12 : Int)) rfl) gn))))))
theorem tbH_p0 {c : Cup} {a b : Int} {f : List (List Int)} (h0 : (grtB c (12 : Int)) = false) (h1 : (grtB (⟨(0 : Int), (0 : Int), (0 : Int), ([] : List Int), f⟩ : Cup) (12 : Int)) = true) {base : Nat} : FV Tryz.prog 8 [(.p (cupP c)), (.p (intP a)), (.p (intP b)), (.p (rowsP f))] base (.p (blP true)) [] := by
  exact FV.fin Tryz.func8 rfl (o := [.c (.p (blP (grtB c (12 : Int)))) [], .b false, .b false, .b false, .c (.p (blP (grtB (⟨(0 : Int), (0 : Int), (0 : Int), ([] : List Int), f⟩ : Cup) (12 : Int)))) [], .b false, .b true, .c (.p (blP true)) []]) (l := [FC Tryz.prog 19 [] [] 1 (.p (blP true)) [], _, _, FC Tryz.prog 18 [(.p (.agg [(intP 0), (intP 0), (intP 0), nilS, (rowsP f)])), (.p (intP 12))] [] 1 (.p (blP (grtB (⟨(0 : Int), (0 : Int), (0 : Int), ([] : List Int), f⟩ : Cup) (12 : Int)))) [], _, _, _, FC Tryz.prog 18 [(.p (cupP c)), (.p (intP 12))] [] 1 (.p (blP (grtB c (12 : Int)))) []]) (by kernel_rfl) (gc (FV.fc (awake_ok _) rfl) (gc h1 (gc h0 (gc (FV.fc (FV.argwk (args := [(.p (.agg [(intP 0), (intP 0), (intP 0), nilS, (rowsP f)])), (.p (intP 12))]) (grt_ok (⟨(0 : Int), (0 : Int), (0 : Int), ([] : List Int), f⟩ : Cup) (12 : Int)) (by kernel_rfl)) rfl) (gc h0 (gc h0 (gc h0 (gc (FV.fc (grt_ok c (12 : Int)) rfl) gn))))))))
theorem tbE_p0 {c : Cup} {a b : Int} {f : List (List Int)} (h0 : (grtB c (12 : Int)) = false) (h1 : (grtB (⟨(0 : Int), (0 : Int), (0 : Int), ([] : List Int), f⟩ : Cup) (12 : Int)) = false) (h2 : KL.Small c) (h3 : KL.Small (⟨0, 0, 0, [], f⟩ : Cup)) (h4 : checkP c ≠ 0) (h5 : (checkP c) = (checkP c)) (h6 : (⟨(0 : Int), (0 : Int), (0 : Int), ([] : List Int), ([] : List (List Int))⟩ : Cup) = (⟨(0 : Int), (0 : Int), (0 : Int), ([] : List Int), ([] : List (List Int))⟩ : Cup)) (h7 : KL.Small (⟨(0 : Int), (0 : Int), (0 : Int), ([] : List Int), ([] : List (List Int))⟩ : Cup)) (h8 : (checkP c) ≠ (0 : Int)) (h9 : c = c) (h10 : f = f) {base : Nat} : FV Tryz.prog 8 [(.p (cupP c)), (.p (intP a)), (.p (intP b)), (.p (rowsP f))] base (.p (blP true)) [] := by
  exact FV.fin Tryz.func8 rfl (o := [.c (.p (blP (grtB c (12 : Int)))) [], .b false, .b false, .b false, .c (.p (blP (grtB (⟨(0 : Int), (0 : Int), (0 : Int), ([] : List Int), f⟩ : Cup) (12 : Int)))) [], .b false, .b false, .c (.p (cupP c)) [], .c (.p (rowsP f)) [], .c (.p (intP (checkP c))) [], .c (.tup [(.p (blP false)), (.p (intP (checkP c)))]) [], .c (.tup [(.p nilS), (.p (intP (checkP c)))]) [], .c (.tup [(.p (.agg [(intP 0), (intP 0), (intP 0), nilS, nilS])), (.p (intP (checkP c)))]) [], .c (.tup [(.p (.agg [(intP 0), (intP 0), (intP 0), nilS, nilS])), (.p (intP (checkP c)))]) [], .b false, .b false, .b false, .c (.p (blP true)) [], .b false, .b false, .b false, .b true, .b true, .b true, .b true, .b true, .b true, .b true, .b true, .b true, .b true, .b true, .b true, .b true, .b true, .b true, .c (.p (blP true)) [], .b true, .b true, .b true, .b true, .c (.p (blP true)) [], .b true, .b true, .c (.p (blP true)) [], .b true]) (l := [true = true, FC Tryz.prog 19 [] [] 13 (.p (blP true)) [], true = true, true = true, FC Tryz.prog 46 [(.p (rowsP f)), (.p (rowsP f))] [] 13 (.p (blP true)) [], true = true, true = true, true = true, ((0 : Int) == (0 : Int)) = true, FC Tryz.prog 24 [(.p (cupP c)), (.p (cupP c))] [] 13 (.p (blP true)) [], ((0 : Int) == (0 : Int)) = true, ((0 : Int) == (0 : Int)) = true, ((0 : Int) == (0 : Int)) = true, true = true, true = true, true = true, true = true, _, _, _, _, _, _, _, _, false = false, _, _, FC Tryz.prog 24 [(.p (.agg [(intP 0), (intP 0), (intP 0), nilS, nilS])), (.p (.agg [(intP 0), (intP 0), (intP 0), nilS, nilS]))] [] 13 (.p (blP true)) [], _, _, _, FC Tryz.prog 45 [(.p (cupP c)), (.p (rowsP f))] [] 12 (.tup [(.p (.agg [(intP 0), (intP 0), (intP 0), nilS, nilS])), (.p (intP (checkP c)))]) [], FC Tryz.prog 44 [(.p (cupP c)), (.p (rowsP f))] [] 11 (.tup [(.p (.agg [(intP 0), (intP 0), (intP 0), nilS, nilS])), (.p (intP (checkP c)))]) [], FC Tryz.prog 34 [(.p (cupP c))] [] 11 (.tup [(.p nilS), (.p (intP (checkP c)))]) [], FC Tryz.prog 35 [(.p (cupP c)), (.p (intP a)), (.p (intP b))] [] 11 (.tup [(.p (blP false)), (.p (intP (checkP c)))]) [], FC Tryz.prog 43 [(.p (cupP c))] [] 11 (.p (intP (checkP c))) [], FC Tryz.prog 42 [(.p (rowsP f))] [] 5 (.p (rowsP f)) [], FC Tryz.prog 20 [(.p (cupP c))] [] 1 (.p (cupP c)) [], _, _, FC Tryz.prog 18 [(.p (.agg [(intP 0), (intP 0), (intP 0), nilS, (rowsP f)])), (.p (intP 12))] [] 1 (.p (blP (grtB (⟨(0 : Int), (0 : Int), (0 : Int), ([] : List Int), f⟩ : Cup) (12 : Int)))) [], _, _, _, FC Tryz.prog 18 [(.p (cupP c)), (.p (intP 12))] [] 1 (.p (blP (grtB c (12 : Int)))) []]) (by kernel_rfl) (gc rfl (gc (FV.fc (awake_ok _) rfl) (gc rfl (gc rfl (gc (FV.fc (eqa3_ok f f h10 h3) rfl) (gc rfl (gc rfl (gc rfl (gc (by first | decide | simp) (gc (FV.fc (sam_ok c c h9 h2) rfl) (gc (by first | decide | simp) (gc (by first | decide | simp) (gc (by first | decide | simp) (gc rfl (gc rfl (gc rfl (gc rfl (gc (q_eq h5) (gc (q_eq h5) (gc (q_eq h5) (gc (q_eq h5) (gc (q_eq h5) (gc (q_eq h5) (gc (q_eq h5) (gc (q_neT h8) (gc rfl (gc (q_neF h5) (gc (q_neF h5) (gc (FV.fc (FV.argwk (args := [(.p (.agg [(intP 0), (intP 0), (intP 0), nilS, nilS])), (.p (.agg [(intP 0), (intP 0), (intP 0), nilS, nilS]))]) (sam_ok (⟨(0 : Int), (0 : Int), (0 : Int), ([] : List Int), ([] : List (List Int))⟩ : Cup) (⟨(0 : Int), (0 : Int), (0 : Int), ([] : List Int), ([] : List (List Int))⟩ : Cup) h6 h7) (by kernel_rfl)) rfl) (gc (q_neF h5) (gc (q_neF h5) (gc (q_neF h5) (gc (FV.fc (raf_e1 c f h2 h4) rfl) (gc (FV.fc (after3_e1 c f h2 h4) rfl) (gc (FV.fc (table_err c h2 h4) rfl) (gc (FV.fc (better3_err c h2 a b h4) rfl) (gc (FV.fc (chk_ok c h2) rfl) (gc (FV.fc (cla3_ok f h3) rfl) (gc (FV.fc (cln_ok c h2) rfl) (gc h1 (gc h0 (gc (FV.fc (FV.argwk (args := [(.p (.agg [(intP 0), (intP 0), (intP 0), nilS, (rowsP f)])), (.p (intP 12))]) (grt_ok (⟨(0 : Int), (0 : Int), (0 : Int), ([] : List Int), f⟩ : Cup) (12 : Int)) (by kernel_rfl)) rfl) (gc h0 (gc h0 (gc h0 (gc (FV.fc (grt_ok c (12 : Int)) rfl) gn))))))))))))))))))))))))))))))))))))))))))))))
def tbV_S0 (c : Cup) (a : Int) (b : Int) (f : List (List Int)) (g0 : Bool) (e1 : Int) (i : Nat) (wn : Nat) (wc : List PV) : St := ⟨fr 173 [(1, (.p (intP a))), (2, (.p (intP b))), (3, (.p (rowsP f))), (4, (.ptr 0 0)), (8, (.kb false)), (9, (.ptr 1 0)), (10, (.p (rowsP f))), (11, (.ptr 2 0)), (13, (.p (blP g0))), (14, (.p (intP e1))), (15, (.p (.sl ((tableM c).length) ((tableM c).flatten.map intP)))), (16, (.p (intP 0))), (21, (.own 3)), (105, (.p (.sl ((tableM c).length) ((tableM c).flatten.map intP)))), (106, (.p (intP (((tableM c).length : Nat) : Int)))), (107, (.p (intP (i : Int))))], [some (.box 25 [(.p (intP c.sk)), (.p (intP c.ra)), (.p (intP c.be)), (.p (intsP c.pts)), (.p (rowsP c.done))]), some (.box 25 [(.p (intP c.sk)), (.p (intP c.ra)), (.p (intP c.be)), (.p (intsP c.pts)), (.p (rowsP c.done))]), some (.box 37 [(.p (intP c.sk)), (.p (intP c.ra)), (.p (intP c.be)), (.p (intsP c.pts)), (.p (rowsP c.done))]), some (.row 61 wn wc)]⟩
theorem tbV_p1 {c : Cup} {a b : Int} {f : List (List Int)} {g0 : Bool} {e1 : Int} {n2 : Cup} {e3 : Int} {i'4 : Nat} {w'5 : List (List Int)} (h0 : (grtB c (12 : Int)) = false) (h1 : (grtB (⟨(0 : Int), (0 : Int), (0 : Int), ([] : List Int), f⟩ : Cup) (12 : Int)) = false) (h2 : KL.Small c) (h3 : KL.Small (⟨0, 0, 0, [], f⟩ : Cup)) (h4 : KL.Valid c) (h5 : ∀ nb : Nat, FC Tryz.prog 35 [(.p (cupP c)), (.p (intP a)), (.p (intP b))] [] nb (.tup [(.p (blP g0)), (.p (intP e1))]) []) (h6 : ∀ nb : Nat, FC Tryz.prog 44 [(.p (cupP c)), (.p (rowsP f))] [] nb (.tup [(.p (cupP n2)), (.p (intP e3))]) []) (h7 : ∀ nb : Nat, FC Tryz.prog 45 [(.p (cupP c)), (.p (rowsP f))] [] nb (.tup [(.p (cupP n2)), (.p (intP e3))]) []) (h8 : e3 = e3) (h9 : n2 = n2) (h10 : KL.Small n2) (hl11 : LoopOK Tryz.prog 0 zU5c0 (tbV_S0 c a b f g0 e1 0 0 []) (.exit 0) (tbV_S0 c a b f g0 e1 i'4 w'5.length (w'5.flatten.map intP))) (h12 : (tableM c).length ≤ 100000) (h13 : uni 4 (tableM c)) (h14 : uni 4 w'5) (h15 : (decide ((tableM c) = w'5)) = true) (h16 : (if b < a then b else a) < (0 : Int)) (h17 : e1 = (1 : Int)) (h18 : g0 = false) (h19 : c = c) {base : Nat} : FV Tryz.prog 8 [(.p (cupP c)), (.p (intP a)), (.p (intP b)), (.p (rowsP f))] base (.p (blP true)) [] := by
  exact FV.fin Tryz.func8 rfl (o := [.c (.p (blP (grtB c (12 : Int)))) [], .b false, .b false, .b false, .c (.p (blP (grtB (⟨(0 : Int), (0 : Int), (0 : Int), ([] : List Int), f⟩ : Cup) (12 : Int)))) [], .b false, .b false, .c (.p (cupP c)) [], .c (.p (rowsP f)) [], .c (.p (intP 0)) [], .c (.tup [(.p (blP g0)), (.p (intP e1))]) [], .c (.tup [(.p (.sl ((tableM c).length) ((tableM c).flatten.map intP))), (.p (intP 0))]) [], .c (.tup [(.p (cupP n2)), (.p (intP e3))]) [], .c (.tup [(.p (cupP n2)), (.p (intP e3))]) [], .b false, .b false, .b false, .c (.p (blP true)) [], .b false, .b false, .b false, .b false, .c (.p (.sl ((tableM c).length) ((tableM c).flatten.map intP))) [], .k 1 ⟨(rng [(0, 1), (5, 3), (12, 1), (17, 4), (22, 83), (108, 8)]), [0, 9, 10, 13], [], [(21, 61)]⟩ (.exit 0) (tbV_S0 c a b f g0 e1 i'4 w'5.length (w'5.flatten.map intP)), .b false, .b false, .b false, .c (.p (blP (decide ((tableM c) = w'5)))) [], .b false, .b false, .b false, .b true, .b true, .b true, .b true, .b true, .b true, .b true, .b true, .b true, .b true, .b true, .b true, .b true, .c (.p (blP true)) [], .b true, .b true, .c (.p (blP true)) [], .b true]) (l := [true = true, FC Tryz.prog 19 [] [] 4 (.p (blP true)) [], true = true, _, FC Tryz.prog 24 [(.p (cupP c)), (.p (cupP c))] [] 4 (.p (blP true)) [], _, _, _, _, _, _, _, _, _, _, _, _, _, _, ((0 : Int) != (0 : Int)) = false, ((0 : Int) != (0 : Int)) = false, FC Tryz.prog 39 [(.p (.sl ((tableM c).length) ((tableM c).flatten.map intP))), (.own 3)] [(3, (.row 61 w'5.length (w'5.flatten.map intP)))] 4 (.p (blP (decide ((tableM c) = w'5)))) [], ((0 : Int) != (0 : Int)) = false, ((0 : Int) != (0 : Int)) = false, ((0 : Int) != (0 : Int)) = false, _, FC Tryz.prog 47 [(.p (cupP c))] [] 13 (.p (.sl ((tableM c).length) ((tableM c).flatten.map intP))) [], ((0 : Int) != (0 : Int)) = false, false = false, _, _, FC Tryz.prog 24 [(.p (cupP n2)), (.p (cupP n2))] [] 13 (.p (blP true)) [], _, _, _, FC Tryz.prog 45 [(.p (cupP c)), (.p (rowsP f))] [] 12 (.tup [(.p (cupP n2)), (.p (intP e3))]) [], FC Tryz.prog 44 [(.p (cupP c)), (.p (rowsP f))] [] 11 (.tup [(.p (cupP n2)), (.p (intP e3))]) [], FC Tryz.prog 34 [(.p (cupP c))] [] 11 (.tup [(.p (.sl ((tableM c).length) ((tableM c).flatten.map intP))), (.p (intP 0))]) [], FC Tryz.prog 35 [(.p (cupP c)), (.p (intP a)), (.p (intP b))] [] 11 (.tup [(.p (blP g0)), (.p (intP e1))]) [], FC Tryz.prog 43 [(.p (cupP c))] [] 11 (.p (intP 0)) [], FC Tryz.prog 42 [(.p (rowsP f))] [] 5 (.p (rowsP f)) [], FC Tryz.prog 20 [(.p (cupP c))] [] 1 (.p (cupP c)) [], _, _, FC Tryz.prog 18 [(.p (.agg [(intP 0), (intP 0), (intP 0), nilS, (rowsP f)])), (.p (intP 12))] [] 1 (.p (blP (grtB (⟨(0 : Int), (0 : Int), (0 : Int), ([] : List Int), f⟩ : Cup) (12 : Int)))) [], _, _, _, FC Tryz.prog 18 [(.p (cupP c)), (.p (intP 12))] [] 1 (.p (blP (grtB c (12 : Int)))) []]) (by kernel_rfl) (gc rfl (gc (FV.fc (awake_ok _) rfl) (gc rfl (gc (q_not h18) (gc (FV.fc (sam_ok c c h19 h2) rfl) (gc (q_not h18) (gc (q_not h18) (gc (q_not h18) (gc (q_eq h17) (gc (q_eq h17) (gc (q_eq h17) (gc (q_lt h16) (gc (q_lt h16) (gc (q_lt h16) (gc (q_lt h16) (gc (q_lt h16) (gc (q_lt h16) (gc (q_lt h16) (gc (q_notF h15) (gc (by first | decide | simp) (gc (by first | decide | simp) (gc (FV.view (args' := [(.p (.sl ((tableM c).length) ((tableM c).flatten.map intP))), (.p (.sl w'5.length (w'5.flatten.map intP)))]) (eql_ok (tableM c) w'5 h12 h13 h14) (by kernel_rfl) (by kernel_rfl) (by kernel_rfl)) (gc (by first | decide | simp) (gc (by first | decide | simp) (gc (by first | decide | simp) (gc hl11.code (gc (FV.fc (rtb_ok c h4) rfl) (gc (by first | decide | simp) (gc rfl (gc (q_neF h8) (gc (q_neF h8) (gc (FV.fc (sam_ok n2 n2 h9 h10) rfl) (gc (q_neF h8) (gc (q_neF h8) (gc (q_neF h8) (gc (h7 12) (gc (h6 11) (gc (FV.fc (table_ok c h4) rfl) (gc (h5 11) (gc (FV.fc (chk0 c h4) rfl) (gc (FV.fc (cla3_ok f h3) rfl) (gc (FV.fc (cln_ok c h2) rfl) (gc h1 (gc h0 (gc (FV.fc (FV.argwk (args := [(.p (.agg [(intP 0), (intP 0), (intP 0), nilS, (rowsP f)])), (.p (intP 12))]) (grt_ok (⟨(0 : Int), (0 : Int), (0 : Int), ([] : List Int), f⟩ : Cup) (12 : Int)) (by kernel_rfl)) rfl) (gc h0 (gc h0 (gc h0 (gc (FV.fc (grt_ok c (12 : Int)) rfl) gn)))))))))))))))))))))))))))))))))))))))))))))))))
theorem tbV_p4 {c : Cup} {a b : Int} {f : List (List Int)} {g0 : Bool} {e1 : Int} {n2 : Cup} {e3 : Int} {i'4 : Nat} {w'5 : List (List Int)} (h0 : (grtB c (12 : Int)) = false) (h1 : (grtB (⟨(0 : Int), (0 : Int), (0 : Int), ([] : List Int), f⟩ : Cup) (12 : Int)) = false) (h2 : KL.Small c) (h3 : KL.Small (⟨0, 0, 0, [], f⟩ : Cup)) (h4 : KL.Valid c) (h5 : ∀ nb : Nat, FC Tryz.prog 35 [(.p (cupP c)), (.p (intP a)), (.p (intP b))] [] nb (.tup [(.p (blP g0)), (.p (intP e1))]) []) (h6 : ∀ nb : Nat, FC Tryz.prog 44 [(.p (cupP c)), (.p (rowsP f))] [] nb (.tup [(.p (cupP n2)), (.p (intP e3))]) []) (h7 : ∀ nb : Nat, FC Tryz.prog 45 [(.p (cupP c)), (.p (rowsP f))] [] nb (.tup [(.p (cupP n2)), (.p (intP e3))]) []) (h8 : e3 = e3) (h9 : n2 = n2) (h10 : KL.Small n2) (hl11 : LoopOK Tryz.prog 0 zU5c0 (tbV_S0 c a b f g0 e1 0 0 []) (.exit 0) (tbV_S0 c a b f g0 e1 i'4 w'5.length (w'5.flatten.map intP))) (h12 : (tableM c).length ≤ 100000) (h13 : uni 4 (tableM c)) (h14 : uni 4 w'5) (h15 : (decide ((tableM c) = w'5)) = true) (h16 : (0 : Int) ≤ (if b < a then b else a)) (h17 : c.sk ≤ (if b > a then b else a)) (h18 : e1 = (1 : Int)) (h19 : g0 = false) (h20 : c = c) {base : Nat} : FV Tryz.prog 8 [(.p (cupP c)), (.p (intP a)), (.p (intP b)), (.p (rowsP f))] base (.p (blP true)) [] := by
  exact FV.fin Tryz.func8 rfl (o := [.c (.p (blP (grtB c (12 : Int)))) [], .b false, .b false, .b false, .c (.p (blP (grtB (⟨(0 : Int), (0 : Int), (0 : Int), ([] : List Int), f⟩ : Cup) (12 : Int)))) [], .b false, .b false, .c (.p (cupP c)) [], .c (.p (rowsP f)) [], .c (.p (intP 0)) [], .c (.tup [(.p (blP g0)), (.p (intP e1))]) [], .c (.tup [(.p (.sl ((tableM c).length) ((tableM c).flatten.map intP))), (.p (intP 0))]) [], .c (.tup [(.p (cupP n2)), (.p (intP e3))]) [], .c (.tup [(.p (cupP n2)), (.p (intP e3))]) [], .b false, .b false, .b false, .c (.p (blP true)) [], .b false, .b false, .b false, .b false, .c (.p (.sl ((tableM c).length) ((tableM c).flatten.map intP))) [], .k 1 ⟨(rng [(0, 1), (5, 3), (12, 1), (17, 4), (22, 83), (108, 8)]), [0, 9, 10, 13], [], [(21, 61)]⟩ (.exit 0) (tbV_S0 c a b f g0 e1 i'4 w'5.length (w'5.flatten.map intP)), .b false, .b false, .b false, .c (.p (blP (decide ((tableM c) = w'5)))) [], .b false, .b false, .b false, .b false, .b false, .b false, .b false, .b false, .b false, .b false, .b true, .b true, .b true, .b true, .b true, .b true, .b true, .c (.p (blP true)) [], .b true, .b true, .c (.p (blP true)) [], .b true]) (l := [true = true, FC Tryz.prog 19 [] [] 4 (.p (blP true)) [], true = true, _, FC Tryz.prog 24 [(.p (cupP c)), (.p (cupP c))] [] 4 (.p (blP true)) [], _, _, _, _, _, _, _, _, _, _, _, _, _, _, _, ((0 : Int) != (0 : Int)) = false, ((0 : Int) != (0 : Int)) = false, FC Tryz.prog 39 [(.p (.sl ((tableM c).length) ((tableM c).flatten.map intP))), (.own 3)] [(3, (.row 61 w'5.length (w'5.flatten.map intP)))] 4 (.p (blP (decide ((tableM c) = w'5)))) [], ((0 : Int) != (0 : Int)) = false, ((0 : Int) != (0 : Int)) = false, ((0 : Int) != (0 : Int)) = false, _, FC Tryz.prog 47 [(.p (cupP c))] [] 13 (.p (.sl ((tableM c).length) ((tableM c).flatten.map intP))) [], ((0 : Int) != (0 : Int)) = false, false = false, _, _, FC Tryz.prog 24 [(.p (cupP n2)), (.p (cupP n2))] [] 13 (.p (blP true)) [], _, _, _, FC Tryz.prog 45 [(.p (cupP c)), (.p (rowsP f))] [] 12 (.tup [(.p (cupP n2)), (.p (intP e3))]) [], FC Tryz.prog 44 [(.p (cupP c)), (.p (rowsP f))] [] 11 (.tup [(.p (cupP n2)), (.p (intP e3))]) [], FC Tryz.prog 34 [(.p (cupP c))] [] 11 (.tup [(.p (.sl ((tableM c).length) ((tableM c).flatten.map intP))), (.p (intP 0))]) [], FC Tryz.prog 35 [(.p (cupP c)), (.p (intP a)), (.p (intP b))] [] 11 (.tup [(.p (blP g0)), (.p (intP e1))]) [], FC Tryz.prog 43 [(.p (cupP c))] [] 11 (.p (intP 0)) [], FC Tryz.prog 42 [(.p (rowsP f))] [] 5 (.p (rowsP f)) [], FC Tryz.prog 20 [(.p (cupP c))] [] 1 (.p (cupP c)) [], _, _, FC Tryz.prog 18 [(.p (.agg [(intP 0), (intP 0), (intP 0), nilS, (rowsP f)])), (.p (intP 12))] [] 1 (.p (blP (grtB (⟨(0 : Int), (0 : Int), (0 : Int), ([] : List Int), f⟩ : Cup) (12 : Int)))) [], _, _, _, FC Tryz.prog 18 [(.p (cupP c)), (.p (intP 12))] [] 1 (.p (blP (grtB c (12 : Int)))) []]) (by kernel_rfl) (gc rfl (gc (FV.fc (awake_ok _) rfl) (gc rfl (gc (q_not h19) (gc (FV.fc (sam_ok c c h20 h2) rfl) (gc (q_not h19) (gc (q_not h19) (gc (q_not h19) (gc (q_eq h18) (gc (q_eq h18) (gc (q_eq h18) (gc (q_le h17) (gc (q_ltF h16) (gc (q_ltF h16) (gc (q_ltF h16) (gc (q_ltF h16) (gc (q_ltF h16) (gc (q_ltF h16) (gc (q_ltF h16) (gc (q_notF h15) (gc (by first | decide | simp) (gc (by first | decide | simp) (gc (FV.view (args' := [(.p (.sl ((tableM c).length) ((tableM c).flatten.map intP))), (.p (.sl w'5.length (w'5.flatten.map intP)))]) (eql_ok (tableM c) w'5 h12 h13 h14) (by kernel_rfl) (by kernel_rfl) (by kernel_rfl)) (gc (by first | decide | simp) (gc (by first | decide | simp) (gc (by first | decide | simp) (gc hl11.code (gc (FV.fc (rtb_ok c h4) rfl) (gc (by first | decide | simp) (gc rfl (gc (q_neF h8) (gc (q_neF h8) (gc (FV.fc (sam_ok n2 n2 h9 h10) rfl) (gc (q_neF h8) (gc (q_neF h8) (gc (q_neF h8) (gc (h7 12) (gc (h6 11) (gc (FV.fc (table_ok c h4) rfl) (gc (h5 11) (gc (FV.fc (chk0 c h4) rfl) (gc (FV.fc (cla3_ok f h3) rfl) (gc (FV.fc (cln_ok c h2) rfl) (gc h1 (gc h0 (gc (FV.fc (FV.argwk (args := [(.p (.agg [(intP 0), (intP 0), (intP 0), nilS, (rowsP f)])), (.p (intP 12))]) (grt_ok (⟨(0 : Int), (0 : Int), (0 : Int), ([] : List Int), f⟩ : Cup) (12 : Int)) (by kernel_rfl)) rfl) (gc h0 (gc h0 (gc h0 (gc (FV.fc (grt_ok c (12 : Int)) rfl) gn))))))))))))))))))))))))))))))))))))))))))))))))))
theorem tbV_p7 {c : Cup} {a b : Int} {f : List (List Int)} {g0 : Bool} {e1 : Int} {n2 : Cup} {e3 : Int} {i'4 : Nat} {w'5 : List (List Int)} (h0 : (grtB c (12 : Int)) = false) (h1 : (grtB (⟨(0 : Int), (0 : Int), (0 : Int), ([] : List Int), f⟩ : Cup) (12 : Int)) = false) (h2 : KL.Small c) (h3 : KL.Small (⟨0, 0, 0, [], f⟩ : Cup)) (h4 : KL.Valid c) (h5 : ∀ nb : Nat, FC Tryz.prog 35 [(.p (cupP c)), (.p (intP a)), (.p (intP b))] [] nb (.tup [(.p (blP g0)), (.p (intP e1))]) []) (h6 : ∀ nb : Nat, FC Tryz.prog 44 [(.p (cupP c)), (.p (rowsP f))] [] nb (.tup [(.p (cupP n2)), (.p (intP e3))]) []) (h7 : ∀ nb : Nat, FC Tryz.prog 45 [(.p (cupP c)), (.p (rowsP f))] [] nb (.tup [(.p (cupP n2)), (.p (intP e3))]) []) (h8 : e3 = e3) (h9 : n2 = n2) (h10 : KL.Small n2) (hl11 : LoopOK Tryz.prog 0 zU5c0 (tbV_S0 c a b f g0 e1 0 0 []) (.exit 0) (tbV_S0 c a b f g0 e1 i'4 w'5.length (w'5.flatten.map intP))) (h12 : (tableM c).length ≤ 100000) (h13 : uni 4 (tableM c)) (h14 : uni 4 w'5) (h15 : (decide ((tableM c) = w'5)) = true) (h16 : (0 : Int) ≤ (if b < a then b else a)) (h17 : (if b > a then b else a) < c.sk) (h18 : e1 = (0 : Int)) (h19 : 0 ≤ a ∧ a < c.sk) (h20 : 0 ≤ b ∧ b < c.sk) (h21 : (g0 == (betS c a.toNat b.toNat)) = true) (h22 : c = c) (h23 : f = f) {base : Nat} : FV Tryz.prog 8 [(.p (cupP c)), (.p (intP a)), (.p (intP b)), (.p (rowsP f))] base (.p (blP true)) [] := by
  exact FV.fin Tryz.func8 rfl (o := [.c (.p (blP (grtB c (12 : Int)))) [], .b false, .b false, .b false, .c (.p (blP (grtB (⟨(0 : Int), (0 : Int), (0 : Int), ([] : List Int), f⟩ : Cup) (12 : Int)))) [], .b false, .b false, .c (.p (cupP c)) [], .c (.p (rowsP f)) [], .c (.p (intP 0)) [], .c (.tup [(.p (blP g0)), (.p (intP e1))]) [], .c (.tup [(.p (.sl ((tableM c).length) ((tableM c).flatten.map intP))), (.p (intP 0))]) [], .c (.tup [(.p (cupP n2)), (.p (intP e3))]) [], .c (.tup [(.p (cupP n2)), (.p (intP e3))]) [], .b false, .b false, .b false, .c (.p (blP true)) [], .b false, .b false, .b false, .b false, .c (.p (.sl ((tableM c).length) ((tableM c).flatten.map intP))) [], .k 1 ⟨(rng [(0, 1), (5, 3), (12, 1), (17, 4), (22, 83), (108, 8)]), [0, 9, 10, 13], [], [(21, 61)]⟩ (.exit 0) (tbV_S0 c a b f g0 e1 i'4 w'5.length (w'5.flatten.map intP)), .b false, .b false, .b false, .c (.p (blP (decide ((tableM c) = w'5)))) [], .b false, .b false, .b false, .b false, .b false, .b false, .b false, .b false, .b false, .b false, .b false, .b true, .b true, .b true, .b true, .b true, .c (.p (blP (betS c a.toNat b.toNat))) [], .b true, .b true, .b true, .b true, .b true, .c (.p (blP true)) [], .b true, .b true, .b true, .b true, .c (.p (blP true)) [], .b true, .b true, .c (.p (blP true)) [], .b true]) (l := [true = true, FC Tryz.prog 19 [] [] 4 (.p (blP true)) [], true = true, true = true, FC Tryz.prog 46 [(.p (rowsP f)), (.p (rowsP f))] [] 4 (.p (blP true)) [], true = true, true = true, true = true, _, FC Tryz.prog 24 [(.p (cupP c)), (.p (cupP c))] [] 4 (.p (blP true)) [], _, _, _, _, _, FC Tryz.prog 48 [(.p (cupP c)), (.p (intP a)), (.p (intP b))] [] 4 (.p (blP (betS c a.toNat b.toNat))) [], _, _, _, _, _, _, _, _, _, _, _, _, _, _, ((0 : Int) != (0 : Int)) = false, ((0 : Int) != (0 : Int)) = false, FC Tryz.prog 39 [(.p (.sl ((tableM c).length) ((tableM c).flatten.map intP))), (.own 3)] [(3, (.row 61 w'5.length (w'5.flatten.map intP)))] 4 (.p (blP (decide ((tableM c) = w'5)))) [], ((0 : Int) != (0 : Int)) = false, ((0 : Int) != (0 : Int)) = false, ((0 : Int) != (0 : Int)) = false, _, FC Tryz.prog 47 [(.p (cupP c))] [] 13 (.p (.sl ((tableM c).length) ((tableM c).flatten.map intP))) [], ((0 : Int) != (0 : Int)) = false, false = false, _, _, FC Tryz.prog 24 [(.p (cupP n2)), (.p (cupP n2))] [] 13 (.p (blP true)) [], _, _, _, FC Tryz.prog 45 [(.p (cupP c)), (.p (rowsP f))] [] 12 (.tup [(.p (cupP n2)), (.p (intP e3))]) [], FC Tryz.prog 44 [(.p (cupP c)), (.p (rowsP f))] [] 11 (.tup [(.p (cupP n2)), (.p (intP e3))]) [], FC Tryz.prog 34 [(.p (cupP c))] [] 11 (.tup [(.p (.sl ((tableM c).length) ((tableM c).flatten.map intP))), (.p (intP 0))]) [], FC Tryz.prog 35 [(.p (cupP c)), (.p (intP a)), (.p (intP b))] [] 11 (.tup [(.p (blP g0)), (.p (intP e1))]) [], FC Tryz.prog 43 [(.p (cupP c))] [] 11 (.p (intP 0)) [], FC Tryz.prog 42 [(.p (rowsP f))] [] 5 (.p (rowsP f)) [], FC Tryz.prog 20 [(.p (cupP c))] [] 1 (.p (cupP c)) [], _, _, FC Tryz.prog 18 [(.p (.agg [(intP 0), (intP 0), (intP 0), nilS, (rowsP f)])), (.p (intP 12))] [] 1 (.p (blP (grtB (⟨(0 : Int), (0 : Int), (0 : Int), ([] : List Int), f⟩ : Cup) (12 : Int)))) [], _, _, _, FC Tryz.prog 18 [(.p (cupP c)), (.p (intP 12))] [] 1 (.p (blP (grtB c (12 : Int)))) []]) (by kernel_rfl) (gc rfl (gc (FV.fc (awake_ok _) rfl) (gc rfl (gc rfl (gc (FV.fc (eqa3_ok f f h23 h3) rfl) (gc rfl (gc rfl (gc rfl (gc h21 (gc (FV.fc (sam_ok c c h22 h2) rfl) (gc h21 (gc h21 (gc h21 (gc (q_eq h18) (gc (q_eq h18) (gc (FV.fc (rbt_ok c a b h4 h19 h20) rfl) (gc (q_eq h18) (gc (q_eq h18) (gc (q_eq h18) (gc (q_eq h18) (gc (q_eq h18) (gc (q_leF h17) (gc (q_ltF h16) (gc (q_ltF h16) (gc (q_ltF h16) (gc (q_ltF h16) (gc (q_ltF h16) (gc (q_ltF h16) (gc (q_ltF h16) (gc (q_notF h15) (gc (by first | decide | simp) (gc (by first | decide | simp) (gc (FV.view (args' := [(.p (.sl ((tableM c).length) ((tableM c).flatten.map intP))), (.p (.sl w'5.length (w'5.flatten.map intP)))]) (eql_ok (tableM c) w'5 h12 h13 h14) (by kernel_rfl) (by kernel_rfl) (by kernel_rfl)) (gc (by first | decide | simp) (gc (by first | decide | simp) (gc (by first | decide | simp) (gc hl11.code (gc (FV.fc (rtb_ok c h4) rfl) (gc (by first | decide | simp) (gc rfl (gc (q_neF h8) (gc (q_neF h8) (gc (FV.fc (sam_ok n2 n2 h9 h10) rfl) (gc (q_neF h8) (gc (q_neF h8) (gc (q_neF h8) (gc (h7 12) (gc (h6 11) (gc (FV.fc (table_ok c h4) rfl) (gc (h5 11) (gc (FV.fc (chk0 c h4) rfl) (gc (FV.fc (cla3_ok f h3) rfl) (gc (FV.fc (cln_ok c h2) rfl) (gc h1 (gc h0 (gc (FV.fc (FV.argwk (args := [(.p (.agg [(intP 0), (intP 0), (intP 0), nilS, (rowsP f)])), (.p (intP 12))]) (grt_ok (⟨(0 : Int), (0 : Int), (0 : Int), ([] : List Int), f⟩ : Cup) (12 : Int)) (by kernel_rfl)) rfl) (gc h0 (gc h0 (gc h0 (gc (FV.fc (grt_ok c (12 : Int)) rfl) gn))))))))))))))))))))))))))))))))))))))))))))))))))))))))))))
theorem tbV_L0_p0 {c : Cup} {a b : Int} {f : List (List Int)} {g0 : Bool} {e1 : Int} {i : Nat} {w : List (List Int)} {y100 y101 y102 y103 : Int} {i' : Nat} {w' : List (List Int)} (h0 : (i : Int) < (((tableM c).length : Nat) : Int)) (h1 : (tableM c)[i]? = some [y100, y101, y102, y103]) (h2 : uni 4 (tableM c)) (h3 : [(intP y100), (intP y101), (intP y102), (intP y103)].length = 1 * 4 ∧ w.length + 1 ≤ 1000000) (h4 : inR (((i + 1) : Nat) : Int)) (ei' : i' = (i + 1)) (ew'n : w'.length = (w.length + 1)) (ew'c : w'.flatten.map intP = ((w.flatten.map intP) ++ [(intP y100), (intP y101), (intP y102), (intP y103)])) : CodeOK Tryz.prog 0 zU5c0 (tbV_S0 c a b f g0 e1 i w.length (w.flatten.map intP)) .normal (tbV_S0 c a b f g0 e1 i' w'.length (w'.flatten.map intP)) := by
  subst ei'
  have raw : CodeOK Tryz.prog 0 zU5c0 (tbV_S0 c a b f g0 e1 i w.length (w.flatten.map intP)) .normal (tbV_S0 c a b f g0 e1 (i + 1) (w.length + 1) ((w.flatten.map intP) ++ [(intP y100), (intP y101), (intP y102), (intP y103)])) := CodeOK.fin (g := ⟨(rng [(0, 1), (5, 3), (12, 1), (17, 4), (22, 83), (108, 8)]), [0, 1, 2, 6], [], []⟩) (o := [.b true, .x (.agg [(intP y100), (intP y101), (intP y102), (intP y103)])]) (l := [_, _, [(intP y100), (intP y101), (intP y102), (intP y103)].length = 4, some (.agg ((((tableM c).flatten.map intP).drop (i * 4)).take 4) : PV) = some (.agg [(intP y100), (intP y101), (intP y102), (intP y103)]), _, 0 ≤ (i : Int) ∧ (i : Int) < (((tableM c).length : Nat) : Int) ∧ (i * 4) < ((tableM c).flatten.map intP).length, _]) (by kernel_rfl) (gc h4 (gc h3 (gc (by first | decide | simp) (gc (fl_load (i := i) h2 h1) (gc (fl_le (i := i) h2 h1) (gc (ix_fl (k := 4) (i := (i : Int)) (by decide) h2 (Int.natCast_nonneg _) h1) (gc (q_lt h0) gn)))))))
  exact raw.cast (by rw [ew'n, ew'c])
theorem tbV_L0_p1 {c : Cup} {a b : Int} {f : List (List Int)} {g0 : Bool} {e1 : Int} {i : Nat} {w : List (List Int)} (h0 : (((tableM c).length : Nat) : Int) ≤ (i : Int)) : CodeOK Tryz.prog 0 zU5c0 (tbV_S0 c a b f g0 e1 i w.length (w.flatten.map intP)) (.exit 0) (tbV_S0 c a b f g0 e1 i w.length (w.flatten.map intP)) := by
  exact CodeOK.fin (g := ⟨(rng [(0, 1), (5, 3), (12, 1), (17, 4), (22, 83), (108, 8)]), [0, 1, 2, 3], [], []⟩) (o := [.b false]) (l := [_]) (by kernel_rfl) (gc (q_ltF h0) gn)
theorem tableM_uni (c : Cup) : uni 4 (tableM c) := by rw [table_ref]; exact tabR_uni c _
theorem tableM_len {c : Cup} (hV : KL.Valid c) : (tableM c).length ≤ 144 := by
  have s2 := hV.sk2
  have s1 := hV.sk1
  rw [table_ref]
  exact Nat.le_trans (tabR_len c _) (Nat.mul_le_mul (show c.sk.toNat ≤ 12 by omega) (show c.sk.toNat ≤ 12 by omega))
theorem tbV_tab (c : Cup) (a b : Int) (f : List (List Int)) (g0 : Bool) (e1 : Int) (hV : KL.Valid c) : LoopOK Tryz.prog 0 zU5c0 (tbV_S0 c a b f g0 e1 0 0 []) (.exit 0) (tbV_S0 c a b f g0 e1 (tableM c).length (tableM c).length ((tableM c).flatten.map intP)) := by
  have hu := tableM_uni c
  have hl := tableM_len hV
  refine LoopOK.count (tableM c).length (fun i => tbV_S0 c a b f g0 e1 i ((tableM c).take i).length (((tableM c).take i).flatten.map intP)) (fun i hi => ?_)
    (by rw [List.take_length]; exact tbV_L0_p1 (w := tableM c) (by omega)) (by simp)
  have hx := List.getElem?_eq_getElem hi
  have h4 := hu _ (List.getElem_mem hi)
  match e : (tableM c)[i], h4 with
  | [y0, y1, y2, y3], _ =>
    rw [e] at hx
    have et : (tableM c).take (i + 1) = (tableM c).take i ++ [[y0, y1, y2, y3]] := by rw [List.take_add_one, hx]; rfl
    exact tbV_L0_p0 (w := (tableM c).take i) (w' := (tableM c).take (i + 1)) (by omega) hx hu ⟨rfl, by simp; omega⟩ (inR_nat (by omega)) rfl (by rw [et]; simp) (by rw [et, List.flatten_append, List.map_append]; rfl)
theorem tables_law (c : Cup) (a b : Int) (f : List (List Int)) {base : Nat} : FV Tryz.prog 8 [.p (cupP c), .p (intP a), .p (intP b), .p (rowsP f)] base (.p (blP true)) [] := by
  cases g : grtB c 12 with
  | true => exact tbG_p0 g
  | false =>
  cases g2 : grtB ⟨0, 0, 0, [], f⟩ 12 with
  | true => exact tbH_p0 g g2
  | false =>
    obtain ⟨hS, d1, d2, d3, _⟩ := grt_small g
    obtain ⟨hF, _, d4, d5, _⟩ := grt_small g2
    have hF' : KL.Small (⟨0, 0, 0, [], f⟩ : Cup) := hF
    have hZ : KL.Small (⟨0, 0, 0, [], []⟩ : Cup) := ⟨by simp, by simp, by simp⟩
    by_cases hc : checkP c = 0
    · have hV := (KL.valid_iff c).1 hc
      have d4' : f.length ≤ 25 := d4
      have hW : KL.Small (withC c f) := ⟨hS.pts, by rw [show (withC c f).done = c.done ++ f from rfl, List.length_append]; omega, fun r hr => by
        rcases List.mem_append.1 hr with hr | hr
        · exact hS.rows r hr
        · exact hF.rows r hr⟩
      obtain ⟨n, e, hn, A1, A2⟩ : ∃ (n : Cup) (e : Int), KL.Small n ∧ (∀ nb : Nat, FC Tryz.prog 44 [.p (cupP c), .p (rowsP f)] [] nb (.tup [.p (cupP n), .p (intP e)]) []) ∧ (∀ nb : Nat, FC Tryz.prog 45 [.p (cupP c), .p (rowsP f)] [] nb (.tup [.p (cupP n), .p (intP e)]) []) := by
        by_cases hw : checkP (withC c f) = 0
        · have hV2 := (KL.valid_iff _).1 hw
          exact ⟨withC c f, 0, hW, fun nb => (after3_ok c f hV hV2).fc rfl, fun nb => (raf_ok c f hV hV2).fc rfl⟩
        · exact ⟨⟨0, 0, 0, [], []⟩, checkP (withC c f), hZ, fun nb => FC.wk ((after3_e2 c f hV hW hw).fc rfl) (by kernel_rfl), fun nb => FC.wk ((raf_e2 c f hV hW hw).fc rfl) (by kernel_rfl)⟩
      have hu := tableM_uni c
      have hl : (tableM c).length ≤ 100000 := by have := tableM_len hV; omega
      by_cases hab : 0 ≤ a ∧ a < c.sk ∧ 0 ≤ b ∧ b < c.sk
      · exact tbV_p7 g g2 hS hF' hV (fun nb => (better3_ok c hV a b ⟨hab.1, hab.2.1⟩ hab.2.2).fc rfl) A1 A2 rfl rfl hn (tbV_tab c a b f _ _ hV) hl hu hu (by simp) (by split <;> omega) (by split <;> omega) rfl ⟨hab.1, hab.2.1⟩ hab.2.2 (by simp) rfl rfl
      · have B := fun nb : Nat => (better3_out c hV a b hab (base := nb)).fc (bs := []) rfl
        by_cases hm : (if b < a then b else a) < 0
        · exact tbV_p1 g g2 hS hF' hV B A1 A2 rfl rfl hn (tbV_tab c a b f _ _ hV) hl hu hu (by simp) hm rfl rfl rfl
        · have hM : c.sk ≤ (if b > a then b else a) := by
            split at hm <;> split <;> omega
          exact tbV_p4 g g2 hS hF' hV B A1 A2 rfl rfl hn (tbV_tab c a b f _ _ hV) hl hu hu (by simp) (by omega) hM rfl rfl rfl
    · exact tbE_p0 g g2 hS hF' hc rfl rfl hZ hc rfl rfl
end
end KV
end Go.Proofs
