/- Parts of the proof of JDecided: laws of walks, contracts of functions, plain models. No condition. -/
import Derived.Test.YtgehgmllhmfbpaaGreatPJDecidedE
set_option linter.unusedVariables false
set_option linter.unusedSimpArgs false
set_option maxRecDepth 100000
namespace Go.Proofs
namespace KV
section
open KL Go.RowKit Go.Lib Go.Sort Go.Shelf
noncomputable abbrev zU10c0 : Code := sub (cd Tryz.f152) [1, 0, 1, 0, 0]
noncomputable abbrev zU10c1 : Code := sub (cd Tryz.f66) [1, 1, 0, 1, 0, 0]
noncomputable abbrev zU10c2 : Code := sub (cd Tryz.f163) [1, 1, 0, 1, 0, 0]
theorem pure162 : KL.PureI Tryz.prog 162 KL.nz := by
  refine ⟨enters_of Tryz.func162 (by kernel_rfl) rfl, fun W x => ?_⟩
  by_cases h : x = 0
  · have hh := hid (show KL.nz x = true by simp [KL.nz, h])
    have hx : (x == 0) = true := by simp [h]
    have h' := hid h
    clear h
    go_enter Tryz.func162, Tryz.ntmps162
    go_wp2
    go_ret
    exact ⟨ret_bool hh.out.symm, rfl⟩
  · have hh := hid (show KL.nz x = false by simp [KL.nz, h])
    have hx : (x == 0) = false := by simp [h]
    have h' := hid h
    clear h
    go_enter Tryz.func162, Tryz.ntmps162
    go_wp2
    go_ret
    exact ⟨ret_bool hh.out.symm, rfl⟩
theorem del162_ok (l : List Int) (hl : l.length ≤ 1000) : FMM Tryz.prog 153 [.own 0, .fn 162 [] []] [some (.row 3 l.length (l.map intP))] (.own 1) [some .dead, some (.row 3 (l.filter fun x => !KL.nz x).length ((l.filter fun x => !KL.nz x).map intP))] := deleteI_ok pure162 l hl
theorem rigPs_ints : ∀ l : List Int, rigPs (l.map intP) = true
  | [] => rfl
  | x :: l => by rw [List.map_cons, rigPs, rigPs_ints l]; rfl
theorem rigU_ints (b ty n : Nat) (l : List Int) : rigU [(b, .row ty n (l.map intP))] = true := by
  rw [rigU, rigPs_ints]; rfl
def cpt_S0 (l : List Int) (k : Nat) : St := ⟨fr 61 [(0, (.own 0)), (3, (.p (intP (k : Int))))], [some (.row 3 l.length (l.map intP))]⟩
theorem cpt_p0 {l : List Int} (h0 : (l.length : Int) < (2 : Int)) : FMM Tryz.prog 163 [(.own 0)] [some (.row 3 l.length (l.map intP))] (.own 0) [some (.row 3 l.length (l.map intP))] := by
  exact FMM.fin (k := 1) (g := ⟨[], [], [], []⟩) rfl Tryz.func163 rfl (o := [.b true]) (l := [_]) (by kernel_rfl) (gc (q_lt h0) gn)
theorem cpt_p1 {l : List Int} {k'0 : Nat} (h0 : (2 : Int) ≤ (l.length : Int)) (hl1 : LoopOK Tryz.prog 1 zU10c2 (cpt_S0 l 1) (.exit 0) (cpt_S0 l k'0)) : FMM Tryz.prog 163 [(.own 0)] [some (.row 3 l.length (l.map intP))] (.own 0) [some (.row 3 l.length (l.map intP))] := by
  exact FMM.fin (k := 1) (g := ⟨[], [], [], []⟩) rfl Tryz.func163 rfl (o := [.b false, .k 4 ⟨(rng [(1, 2), (4, 56)]), [], [], []⟩ (.exit 0) (cpt_S0 l k'0)]) (l := [_, _]) (by kernel_rfl) (gc hl1.code (gc (q_ltF h0) gn))
theorem cpt_L0_p0 {l : List Int} {k : Nat} {x100 x101 : Int} {k' : Nat} (h0 : (k : Int) < (l.length : Int)) (h1 : l[k]? = some x100) (h2 : inR ((k : Int) - (1 : Int))) (h3 : l[((k : Int) - (1 : Int)).toNat]? = some x101) (h4 : 0 ≤ ((k : Int) - (1 : Int))) (h5 : x100 ≠ x101) (h6 : inR (((k + 1) : Nat) : Int)) (ek' : k' = (k + 1)) : CodeOK Tryz.prog 1 zU10c2 (cpt_S0 l k) .normal (cpt_S0 l k') := by
  subst ek'
  exact CodeOK.fin (g := ⟨(rng [(1, 2), (4, 56)]), [], [], []⟩) (o := [.b true, .x (intP x100), .x (intP x101), .b false]) (l := [_, _, (l.map intP)[(((k : Int) - (1 : Int)).toNat * 1)]? = some (intP x101), _, _, (l.map intP)[(k * 1)]? = some (intP x100), _, _]) (by kernel_rfl) (gc h6 (gc (q_ne h5) (gc (at_map (i := ((k : Int) - (1 : Int)).toNat) h3) (gc (ix_own (i := ((k : Int) - (1 : Int))) h4 h3) (gc h2 (gc (at_map (i := k) h1) (gc (ix_own (i := (k : Int)) (Int.natCast_nonneg _) h1) (gc (q_lt h0) gn))))))))
theorem cpt_L0_p1 {l : List Int} {k : Nat} (h0 : (l.length : Int) ≤ (k : Int)) : CodeOK Tryz.prog 1 zU10c2 (cpt_S0 l k) (.exit 0) (cpt_S0 l k) := by
  exact CodeOK.fin (g := ⟨(rng [(1, 2), (4, 56)]), [], [], []⟩) (o := [.b false]) (l := [_]) (by kernel_rfl) (gc (q_ltF h0) gn)
theorem cpt_ok (l : List Int) (hl : l.length ≤ 1000) (hd : l.Nodup) : FMM Tryz.prog 163 [.own 0] [some (.row 3 l.length (l.map intP))] (.own 0) [some (.row 3 l.length (l.map intP))] := by
  have atD : ∀ (j : Nat), j < l.length → l[j]? = some (l.getD j 0) := fun j hj => by
    rw [List.getElem?_eq_getElem hj, List.getD_eq_getElem?_getD, List.getElem?_eq_getElem hj]; rfl
  have ne : ∀ j, j + 1 < l.length → l.getD (j + 1) 0 ≠ l.getD j 0 := fun j hj e => by
    rw [List.getD_eq_getElem?_getD, List.getD_eq_getElem?_getD, List.getElem?_eq_getElem hj, List.getElem?_eq_getElem (by omega)] at e
    exact List.pairwise_iff_getElem.1 hd j (j + 1) (by omega) hj (by omega) e.symm
  by_cases h2 : l.length < 2
  · exact cpt_p0 (by omega)
  · have h := LoopOK.count (P := Tryz.prog) (k := 1) (b := zU10c2) (e := .exit 0) (R := cpt_S0 l l.length) (l.length - 1) (fun i => cpt_S0 l (i + 1))
      (fun i hi => by
        have e : (((i + 1 : Nat) : Int) - 1).toNat = i := by omega
        exact cpt_L0_p0 (x101 := l.getD i 0) (by omega) (atD _ (by omega)) (by unfold inR; omega) (by rw [e]; exact atD _ (by omega)) (by omega) (ne i (by omega)) (inR_nat (by omega)) rfl)
      (by rw [show l.length - 1 + 1 = l.length by omega]; exact cpt_L0_p1 (by omega)) (by simp)
    exact cpt_p1 (by omega) h
theorem pln_p0 {l : List Int} {r0 : Bool} (h0 : l.length ≤ 1000) (h1 : (l.filter fun x => !KL.nz x).length ≤ 1000) (h2 : ((l.filter fun x => !KL.nz x).mergeSort KL.leB).length ≤ 1000) (h3 : ((l.filter fun x => !KL.nz x).mergeSort KL.leB).Nodup) (er0 : r0 = (((((l.filter fun x => !KL.nz x).mergeSort KL.leB).length : Nat) : Int) == ((((l.filter fun x => !KL.nz x).mergeSort KL.leB).length : Nat) : Int))) {base : Nat} : FV Tryz.prog 136 [(.p (intsP l))] base (.p (blP r0)) [] := by
  subst er0
  exact FV.fin Tryz.func136 rfl (o := [.c (.own 0) [(0, (.row 3 l.length (l.map intP)))], .c (.own 1) [(0, .dead), (1, (.row 3 ((l.filter fun x => !KL.nz x).length) ((l.filter fun x => !KL.nz x).map intP)))], .c (.tup []) [(1, (.row 3 (((l.filter fun x => !KL.nz x).mergeSort KL.leB).length) (((l.filter fun x => !KL.nz x).mergeSort KL.leB).map intP)))], .c (.own 2) [(2, (.row 3 (((l.filter fun x => !KL.nz x).mergeSort KL.leB).length) (((l.filter fun x => !KL.nz x).mergeSort KL.leB).map intP)))], .c (.own 2) [(2, (.row 3 (((l.filter fun x => !KL.nz x).mergeSort KL.leB).length) (((l.filter fun x => !KL.nz x).mergeSort KL.leB).map intP)))]]) (l := [FC Tryz.prog 163 [(.own 2)] [(2, (.row 3 (((l.filter fun x => !KL.nz x).mergeSort KL.leB).length) (((l.filter fun x => !KL.nz x).mergeSort KL.leB).map intP)))] 3 (.own 2) [(2, (.row 3 (((l.filter fun x => !KL.nz x).mergeSort KL.leB).length) (((l.filter fun x => !KL.nz x).mergeSort KL.leB).map intP)))], FC Tryz.prog 150 [(.own 1)] [(1, (.row 3 (((l.filter fun x => !KL.nz x).mergeSort KL.leB).length) (((l.filter fun x => !KL.nz x).mergeSort KL.leB).map intP)))] 2 (.own 2) [(2, (.row 3 (((l.filter fun x => !KL.nz x).mergeSort KL.leB).length) (((l.filter fun x => !KL.nz x).mergeSort KL.leB).map intP)))], FC Tryz.prog 84 [(.own 1)] [(1, (.row 3 ((l.filter fun x => !KL.nz x).length) ((l.filter fun x => !KL.nz x).map intP)))] 2 (.tup []) [(1, (.row 3 (((l.filter fun x => !KL.nz x).mergeSort KL.leB).length) (((l.filter fun x => !KL.nz x).mergeSort KL.leB).map intP)))], FC Tryz.prog 153 [(.own 0), (.fn 162 [] [])] [(0, (.row 3 l.length (l.map intP)))] 1 (.own 1) [(0, .dead), (1, (.row 3 ((l.filter fun x => !KL.nz x).length) ((l.filter fun x => !KL.nz x).map intP)))], FC Tryz.prog 150 [(.p (intsP l))] [] 0 (.own 0) [(0, (.row 3 l.length (l.map intP)))]]) (by kernel_rfl) (gc (FMM.fc (ids := [2]) (cpt_ok ((l.filter fun x => !KL.nz x).mergeSort KL.leB) h2 h3) (by kernel_rfl)) (gc (FV.view (args' := [(.p (intsP ((l.filter fun x => !KL.nz x).mergeSort KL.leB)))]) (cloneI_ok ((l.filter fun x => !KL.nz x).mergeSort KL.leB) h2) (by kernel_rfl) (by kernel_rfl) (rigU_ints _ _ _ _)) (gc (FMM.fc (ids := [1]) (sortI_ok (l.filter fun x => !KL.nz x) h1) (by kernel_rfl)) (gc (FMM.fc (ids := [0]) (del162_ok l h0) (by kernel_rfl)) (gc (FV.fc (cloneI_ok l h0) rfl) gn)))))
def NSh (r : List Int) : Prop := ∀ p : Int, p ≠ 0 → r.count p ≤ 1
theorem NSh.nodup {r : List Int} (h : NSh r) : (r.filter fun x => !KL.nz x).Nodup := by
  rw [List.nodup_iff_count]
  intro a
  by_cases e : a = 0
  · subst e
    rw [List.count_eq_zero.2 (fun hm => by have := (List.mem_filter.1 hm).2; simp [KL.nz] at this)]
    omega
  · rw [List.count_filter (by simp [KL.nz, e])]
    exact h a e
theorem plain_ok (l : List Int) (hl : l.length ≤ 1000 ∧ NSh l) {base : Nat} : FV Tryz.prog 136 [.p (intsP l)] base (.p (blP true)) [] := by
  have h1 : (l.filter fun x => !KL.nz x).length ≤ 1000 := Nat.le_trans (List.length_filter_le _ _) hl.1
  exact pln_p0 hl.1 h1 (by rw [List.length_mergeSort]; exact h1) ((List.mergeSort_perm _ _).nodup_iff.2 hl.2.nodup) (by simp)
def plT (_ : List Int) : Bool := true
theorem plainT_ok (l : List Int) (hl : l.length ≤ 1000 ∧ NSh l) {base : Nat} : FV Tryz.prog 136 [.p (intsP l)] base (.p (blP (plT l))) [] := plain_ok l hl
theorem all136N_p0 {x : List Int} {r0 : Bool} (h0 : x.length ≤ 1000 ∧ NSh x) (er0 : r0 = (!(plT x))) : FMM Tryz.prog 151 [(.p (intsP x)), (.ptr 0 0)] [some (.box 93 [(.fn 136 [] [])])] (.p (blP r0)) [some (.box 93 [(.fn 136 [] [])])] := by
  subst er0
  exact FMM.fin (k := 1) (g := ⟨[], [], [], []⟩) rfl Tryz.func151 rfl (o := [.c (.p (blP (plT x))) []]) (l := [FC Tryz.prog 136 [(.p (intsP x))] [] 1 (.p (blP (plT x))) []]) (by kernel_rfl) (gc (FV.fc (plainT_ok x h0) rfl) gn)
theorem all136N_ok (x : List Int)  (he : x.length ≤ 1000 ∧ NSh x) : FMM Tryz.prog 151 [(.p (intsP x)), .ptr 0 0] [some (.box 93 [(.fn 136 [] [])])] (.p (blP (!(plT x)))) [some (.box 93 [(.fn 136 [] [])])] := all136N_p0 he rfl
def all136I_S0 (l : List (List Int)) (i : Nat) : St := ⟨fr 19 [(0, (.p (rowsP l))), (1, (.fn 151 [] [(.ptr 0 0)])), (7, (.p (intP (l.length : Int)))), (8, (.p (intP (i : Int))))], [some (.box 93 [(.fn 136 [] [])])]⟩
theorem all136I_p0 {l : List (List Int)} {i'0 : Nat} (hl0 : LoopOK Tryz.prog 1 zU10c0 (all136I_S0 l 0) (.exit 0) (all136I_S0 l i'0)) : FMM Tryz.prog 152 [(.p (rowsP l)), (.fn 151 [] [(.ptr 0 0)])] [some (.box 93 [(.fn 136 [] [])])] (.p (intP (-1 : Int))) [some (.box 93 [(.fn 136 [] [])])] := by
  exact FMM.fin (k := 1) (g := ⟨[], [], [], []⟩) rfl Tryz.func152 rfl (o := [.k 6 ⟨(rng [(2, 5), (9, 10)]), [], [], []⟩ (.exit 0) (all136I_S0 l i'0)]) (l := [_]) (by kernel_rfl) (gc hl0.code gn)
theorem all136I_p1 {l : List (List Int)} {i'0 : Nat} (hl0 : LoopOK Tryz.prog 1 zU10c0 (all136I_S0 l 0) .ret (setS (all136I_S0 l i'0) [(4, (.p (intP (i'0 : Int))))])) : FMM Tryz.prog 152 [(.p (rowsP l)), (.fn 151 [] [(.ptr 0 0)])] [some (.box 93 [(.fn 136 [] [])])] (.p (intP (i'0 : Int))) [some (.box 93 [(.fn 136 [] [])])] := by
  exact FMM.fin (k := 1) (g := ⟨[], [], [], []⟩) rfl Tryz.func152 rfl (o := [.k 6 ⟨(rng [(2, 5), (9, 10)]), [], [], []⟩ .ret (setS (all136I_S0 l i'0) [(4, (.p (intP (i'0 : Int))))])]) (l := [_]) (by kernel_rfl) (gc hl0.code gn)
theorem all136I_L0_p0 {l : List (List Int)} {i : Nat} {x100 : List Int} (h0 : (i : Int) < (l.length : Int)) (h1 : l[i]? = some x100) (h2 : x100.length ≤ 1000 ∧ NSh x100) (h3 : (plT x100) = false) : CodeOK Tryz.prog 1 zU10c0 (all136I_S0 l i) .ret (setS (all136I_S0 l i) [(4, (.p (intP (i : Int))))]) := by
  exact CodeOK.fin (g := ⟨(rng [(2, 2), (5, 2), (9, 10)]), [], [], []⟩) (o := [.b true, .x (intsP x100), .c (.p (blP (!(plT x100)))) [(0, (.box 93 [(.fn 136 [] [])]))], .b true]) (l := [_, FC Tryz.prog 151 [(.p (intsP x100)), (.ptr 0 0)] [(0, (.box 93 [(.fn 136 [] [])]))] 1 (.p (blP (!(plT x100)))) [(0, (.box 93 [(.fn 136 [] [])]))], (l.map intsP)[(i * 1)]? = some (intsP x100), 0 ≤ (i : Int) ∧ (i : Int) < (l.length : Int) ∧ (i * 1) < (l.map intsP).length, _]) (by kernel_rfl) (gc (q_not h3) (gc (FMM.fc (ids := [0]) (all136N_ok x100 h2) (by kernel_rfl)) (gc (at_map (i := i) h1) (gc (ix_map (i := (i : Int)) (Int.natCast_nonneg _) h1) (gc (q_lt h0) gn)))))
theorem all136I_L0_p1 {l : List (List Int)} {i : Nat} {x100 : List Int} {i' : Nat} (h0 : (i : Int) < (l.length : Int)) (h1 : l[i]? = some x100) (h2 : x100.length ≤ 1000 ∧ NSh x100) (h3 : (plT x100) = true) (h4 : inR (((i + 1) : Nat) : Int)) (ei' : i' = (i + 1)) : CodeOK Tryz.prog 1 zU10c0 (all136I_S0 l i) .normal (all136I_S0 l i') := by
  subst ei'
  exact CodeOK.fin (g := ⟨(rng [(2, 5), (9, 10)]), [], [], []⟩) (o := [.b true, .x (intsP x100), .c (.p (blP (!(plT x100)))) [(0, (.box 93 [(.fn 136 [] [])]))], .b false]) (l := [_, _, FC Tryz.prog 151 [(.p (intsP x100)), (.ptr 0 0)] [(0, (.box 93 [(.fn 136 [] [])]))] 1 (.p (blP (!(plT x100)))) [(0, (.box 93 [(.fn 136 [] [])]))], (l.map intsP)[(i * 1)]? = some (intsP x100), 0 ≤ (i : Int) ∧ (i : Int) < (l.length : Int) ∧ (i * 1) < (l.map intsP).length, _]) (by kernel_rfl) (gc h4 (gc (q_notF h3) (gc (FMM.fc (ids := [0]) (all136N_ok x100 h2) (by kernel_rfl)) (gc (at_map (i := i) h1) (gc (ix_map (i := (i : Int)) (Int.natCast_nonneg _) h1) (gc (q_lt h0) gn))))))
theorem all136I_L0_p2 {l : List (List Int)} {i : Nat} (h0 : (l.length : Int) ≤ (i : Int)) : CodeOK Tryz.prog 1 zU10c0 (all136I_S0 l i) (.exit 0) (all136I_S0 l i) := by
  exact CodeOK.fin (g := ⟨(rng [(2, 5), (9, 10)]), [], [], []⟩) (o := [.b false]) (l := [_]) (by kernel_rfl) (gc (q_ltF h0) gn)
theorem all136I_ok (l : List (List Int)) (hl : small l.length) (he : ∀ x ∈ l, x.length ≤ 1000 ∧ NSh x) : FMM Tryz.prog 152 [.p (rowsP l), (.fn 151 [] [(.ptr 0 0)])] [some (.box 93 [(.fn 136 [] [])])] (.p (intP (idxF (fun x => !(plT x)) l))) [some (.box 93 [(.fn 136 [] [])])] := by
  rcases LoopOK.find (P := Tryz.prog) (k := 1) (b := sub (cd Tryz.f152) [1, 0, 1, 0, 0]) (fun i => all136I_S0 l i) (fun i _ => setS (all136I_S0 l i) [(4, .p (intP (i : Int)))]) (all136I_S0 l l.length) .ret (.exit 0) (by simp) (by simp) (fun x => !(plT x)) l
    (fun i x hx hp => all136I_L0_p1 (by have := lt_of_at hx; omega) hx (he x (List.mem_of_getElem? hx)) (by simpa using hp) (inR_nat (by have := lt_of_at hx; omega)) rfl)
    (fun i x hx hp => all136I_L0_p0 (by have := lt_of_at hx; omega) hx (he x (List.mem_of_getElem? hx)) (by simpa using hp))
    (all136I_L0_p2 (l := l) (i := l.length) (by omega)) with ⟨i, x, h1, h2, h3, h4⟩ | ⟨h1, h2, h3⟩
  · rw [idxF_some h2]; exact all136I_p1 h4
  · rw [idxF_none h1]; exact all136I_p0 h3
theorem all136C_p0 {l : List (List Int)} {r0 : Bool} (h0 : small l.length) (h1 : ∀ x ∈ l, x.length ≤ 1000 ∧ NSh x) (er0 : r0 = (decide ((idxF (fun x => !(plT x)) l) ≥ (0 : Int)))) : FMM Tryz.prog 122 [(.p (rowsP l)), (.fn 151 [] [(.ptr 0 0)])] [some (.box 93 [(.fn 136 [] [])])] (.p (blP r0)) [some (.box 93 [(.fn 136 [] [])])] := by
  subst er0
  exact FMM.fin (k := 1) (g := ⟨[], [], [], []⟩) rfl Tryz.func122 rfl (o := [.c (.p (intP (idxF (fun x => !(plT x)) l))) [(0, (.box 93 [(.fn 136 [] [])]))]]) (l := [FC Tryz.prog 152 [(.p (rowsP l)), (.fn 151 [] [(.ptr 0 0)])] [(0, (.box 93 [(.fn 136 [] [])]))] 1 (.p (intP (idxF (fun x => !(plT x)) l))) [(0, (.box 93 [(.fn 136 [] [])]))]]) (by kernel_rfl) (gc (FMM.fc (ids := [0]) (all136I_ok l h0 h1) (by kernel_rfl)) gn)
theorem all136C_ok (l : List (List Int)) (hl : small l.length) (he : ∀ x ∈ l, x.length ≤ 1000 ∧ NSh x) : FMM Tryz.prog 122 [.p (rowsP l), (.fn 151 [] [(.ptr 0 0)])] [some (.box 93 [(.fn 136 [] [])])] (.p (blP (l.any fun x => !(plT x)))) [some (.box 93 [(.fn 136 [] [])])] := all136C_p0 hl he (idxF_any _ _).symm
theorem all136_p0 {l : List (List Int)} {r0 : Bool} (h0 : small l.length) (h1 : ∀ x ∈ l, x.length ≤ 1000 ∧ NSh x) (er0 : r0 = (!(l.any fun x => !(plT x)))) {base : Nat} : FV Tryz.prog 117 [(.p (rowsP l)), (.fn 136 [] [])] base (.p (blP r0)) [] := by
  subst er0
  exact FV.fin Tryz.func117 rfl (o := [.c (.p (blP (l.any fun x => !(plT x)))) [(0, (.box 93 [(.fn 136 [] [])]))]]) (l := [FC Tryz.prog 122 [(.p (rowsP l)), (.fn 151 [] [(.ptr 0 0)])] [(0, (.box 93 [(.fn 136 [] [])]))] 1 (.p (blP (l.any fun x => !(plT x)))) [(0, (.box 93 [(.fn 136 [] [])]))]]) (by kernel_rfl) (gc (FMM.fc (ids := [0]) (all136C_ok l h0 h1) (by kernel_rfl)) gn)
theorem all136_ok (l : List (List Int)) (hl : small l.length) (he : ∀ x ∈ l, x.length ≤ 1000 ∧ NSh x) {base : Nat} : FV Tryz.prog 117 [.p (rowsP l), (.fn 136 [] [])] base (.p (blP (l.all fun x => plT x))) [] := all136_p0 hl he (by rw [List.all_eq_not_any_not])
theorem named0 (c : Cup) (hV : KL.Valid c) (k : Int) (hk : 0 ≤ k ∧ k < c.sk) {base : Nat} : FV Tryz.prog 107 [.p (cupP c), .p (intP k)] base (.tup [.p (cupP c), .p (intP 0)]) [] := by
  have := named_ok c hV.small k (base := base)
  rwa [named_in hV hk.1 hk.2] at this
theorem shw_p0 {c : Cup} {s : Nat} {f : List (List Int)} {r0 : Bool} (h0 : KL.Valid c) (h1 : 0 ≤ (s : Int) ∧ (s : Int) < c.sk) (h2 : inR (c.ra - (c.done.length : Int))) (h3 : (f.length : Int) = (c.ra - (c.done.length : Int))) (h4 : KL.Valid (withC c f)) (h5 : small f.length) (h6 : ∀ x ∈ f, x.length ≤ 1000 ∧ NSh x) (h7 : (f.all fun x => plT x) = true) (h8 : ((s : Nat) : Int) < (withC c f).sk) (er0 : r0 = ((rankM (withC c f) s) == (1 : Int))) {base : Nat} : FV Tryz.prog 72 [(.p (cupP c)), (.p (intP (s : Int))), (.p (rowsP f))] base (.tup [(.p (blP r0)), (.p (intP 0))]) [] := by
  subst er0
  exact FV.fin Tryz.func72 rfl (o := [.c (.tup [(.p (cupP c)), (.p (intP 0))]) [], .b false, .b false, .c (.tup [(.p (.agg [(intP ((withC c f).sk)), (intP ((withC c f).ra)), (intP ((withC c f).be)), (intsP ((withC c f).pts)), (rowsP ((withC c f).done))])), (.p (intP 0))]) [], .b false, .c (.p (blP (f.all fun x => plT x))) [], .b false, .c (.p (intP (rankM (withC c f) s))) []]) (l := [FC Tryz.prog 104 [(.p (.agg [(intP ((withC c f).sk)), (intP ((withC c f).ra)), (intP ((withC c f).be)), (intsP ((withC c f).pts)), (rowsP ((withC c f).done))])), (.p (intP (s : Int)))] [] 3 (.p (intP (rankM (withC c f) s))) [], _, FC Tryz.prog 117 [(.p (rowsP f)), (.fn 136 [] [])] [] 3 (.p (blP (f.all fun x => plT x))) [], ((0 : Int) != (0 : Int)) = false, FC Tryz.prog 44 [(.p (cupP c)), (.p (rowsP f))] [] 2 (.tup [(.p (.agg [(intP ((withC c f).sk)), (intP ((withC c f).ra)), (intP ((withC c f).be)), (intsP ((withC c f).pts)), (rowsP ((withC c f).done))])), (.p (intP 0))]) [], _, _, ((0 : Int) != (0 : Int)) = false, FC Tryz.prog 107 [(.p (cupP c)), (.p (intP (s : Int)))] [] 1 (.tup [(.p (cupP c)), (.p (intP 0))]) []]) (by kernel_rfl) (gc (FV.fc (rank_ok (withC c f) h4 s h8) rfl) (gc (q_notF h7) (gc (FV.fc (all136_ok f h5 h6) rfl) (gc (by first | decide | simp) (gc (FV.fc (after3_ok c f h0 h4) rfl) (gc (q_neF h3) (gc h2 (gc (by first | decide | simp) (gc (FV.fc (named0 c h0 (s : Int) h1) rfl) gn)))))))))
theorem agt_p0 {c : Cup} {s : Nat} {m0 : List (List Int)} (h0 : KL.Valid c) (h1 : 0 ≤ (s : Int) ∧ (s : Int) < c.sk) (h2 : ∀ nb : Nat, FC Tryz.prog 138 [(.p (cupP c)), (.p (intP (s : Int)))] [] nb (.tup [(.p (rowsP m0)), (.p (blP true))]) []) {base : Nat} : FV Tryz.prog 76 [(.p (cupP c)), (.p (intP (s : Int)))] base (.tup [(.p (rowsP m0)), (.p (intP 0))]) [] := by
  exact FV.fin Tryz.func76 rfl (o := [.c (.tup [(.p (cupP c)), (.p (intP 0))]) [], .b false, .c (.tup [(.p (rowsP m0)), (.p (blP true))]) [], .b true]) (l := [true = true, FC Tryz.prog 138 [(.p (cupP c)), (.p (intP (s : Int)))] [] 2 (.tup [(.p (rowsP m0)), (.p (blP true))]) [], ((0 : Int) != (0 : Int)) = false, FC Tryz.prog 107 [(.p (cupP c)), (.p (intP (s : Int)))] [] 1 (.tup [(.p (cupP c)), (.p (intP 0))]) []]) (by kernel_rfl) (gc rfl (gc (h2 2) (gc (by first | decide | simp) (gc (FV.fc (named0 c h0 (s : Int) h1) rfl) gn))))
theorem agt_p1 {c : Cup} {s : Nat} (h0 : KL.Valid c) (h1 : 0 ≤ (s : Int) ∧ (s : Int) < c.sk) (h2 : ∀ nb : Nat, FC Tryz.prog 138 [(.p (cupP c)), (.p (intP (s : Int)))] [] nb (.tup [(.p nilS), (.p (blP false))]) []) {base : Nat} : FV Tryz.prog 76 [(.p (cupP c)), (.p (intP (s : Int)))] base (.tup [(.p nilS), (.p (intP 6))]) [] := by
  exact FV.fin Tryz.func76 rfl (o := [.c (.tup [(.p (cupP c)), (.p (intP 0))]) [], .b false, .c (.tup [(.p nilS), (.p (blP false))]) [], .b false]) (l := [false = false, FC Tryz.prog 138 [(.p (cupP c)), (.p (intP (s : Int)))] [] 2 (.tup [(.p nilS), (.p (blP false))]) [], ((0 : Int) != (0 : Int)) = false, FC Tryz.prog 107 [(.p (cupP c)), (.p (intP (s : Int)))] [] 1 (.tup [(.p (cupP c)), (.p (intP 0))]) []]) (by kernel_rfl) (gc rfl (gc (h2 2) (gc (by first | decide | simp) (gc (FV.fc (named0 c h0 (s : Int) h1) rfl) gn))))
theorem NSh.new {ord : List Int} {n i : Nat} {o : List Int} {pl : Int} {la : List Int} (h : KL.RInv ord n i o pl la) (hin : ∀ x ∈ ord, 0 ≤ x ∧ x.toNat < n) {x d : Int} (hx : ord[i]? = some x) (hd : 0 ≤ d) (hs : NSh o) : NSh (o.set x.toNat (pl + d)) := by
  obtain ⟨x0, x1⟩ := hin x (List.mem_of_getElem? hx)
  have hp1 := h.p1
  have hk : x.toNat < o.length := by rw [h.len]; exact x1
  have hz := h.zero i x (Nat.le_refl _) hx
  have hno : pl + d ∉ o := fun hm => by
    have := (h.cl _ hm (by omega)).1
    have := KL.count_pos' hm
    omega
  intro p hp
  rw [KL.count_setZ hk hz hp]
  by_cases e : pl + d = p
  · subst e; rw [if_pos rfl, List.count_eq_zero.2 hno]; omega
  · rw [if_neg e]; exact hs p hp
theorem raced2_step {n : Int} {l : List Int} {nx st : Int} {i : Nat} {o : List Int} {pl : Int} {la : List Int} {mx tt : Int} (hI : KL.RInv (shufM n l nx st).1 n.toNat i o pl la) (hns : NSh o) (hi : i < (shufM n l nx st).1.length) (hi2 : i ≤ 20) (h0 : 0 ≤ mx ∧ mx ≤ 900000000) :
    ∃ (o' : List Int) (pl' : Int) (la' : List Int) (mx' tt' : Int), CodeOK Tryz.prog 1 (sub (cd Tryz.f67) [1, 1, 1, 1, 0, 1, 0, 0]) (raced_S0 n false l nx st i o.length (o.map intP) pl la.length (la.map intP) mx tt) .normal (raced_S0 n false l nx st (i + 1) o'.length (o'.map intP) pl' la'.length (la'.map intP) mx' tt') ∧ (KL.RInv (shufM n l nx st).1 n.toNat (i + 1) o' pl' la' ∧ NSh o') ∧ mx ≤ mx' ∧ mx' ≤ mx + 4 := by
  obtain ⟨hp, _, _⟩ := shufM_perm n l nx st
  have hnd : (shufM n l nx st).1.Nodup := (hp.nodup_iff).2 (upL_nodup _)
  have hin : ∀ x ∈ (shufM n l nx st).1, 0 ≤ x ∧ x.toNat < n.toNat := fun x hx => upL_mem (hp.mem_iff.1 hx)
  obtain ⟨x, hx⟩ : ∃ x, (shufM n l nx st).1[i]? = some x := ⟨_, List.getElem?_eq_getElem hi⟩
  obtain ⟨x0, x1⟩ := hin x (List.mem_of_getElem? hx)
  have hol := hI.len
  have hx2 : o[x.toNat]? = some (o[x.toNat]'(by omega)) := List.getElem?_eq_getElem (by omega)
  have hx3 : (x.toNat * 1) < (o.map intP).length := by simp; omega
  have hp1 := hI.p1
  have hp2 := hI.p2
  have hll := hI.ll
  have hri : inR (((i + 1 : Nat) : Int)) := inR_nat (by omega)
  have hi' : (i : Int) < (((shufM n l nx st).1.length : Nat) : Int) := by omega
  have b7 := coinM_bd 7 l mx tt
  have fin : ∀ d : Int, 0 ≤ d → d ≤ 2 → KL.RInv (shufM n l nx st).1 n.toNat (i + 1) (o.set x.toNat (pl + d)) (pl + d + 1) [x] := fun d h1 h2 => hI.new hnd hin hx ⟨h1, h2⟩
  have fin0 : KL.RInv (shufM n l nx st).1 n.toNat (i + 1) (o.set x.toNat pl) (pl + 1) [x] := by have := fin 0 (by omega) (by omega); rwa [show pl + 0 = pl by omega] at this
  have fns : ∀ d : Int, 0 ≤ d → NSh (o.set x.toNat (pl + d)) := fun d h1 => NSh.new hI hin hx h1 hns
  have fns0 : NSh (o.set x.toNat pl) := by have := fns 0 (by omega); rwa [show pl + 0 = pl by omega] at this
  cases h3 : (coinM 7 l mx tt).1 with
  | true => exact ⟨o, pl, la, _, _, raced_L0_p0 hi' hx (by omega) h3 hri rfl rfl rfl, ⟨hI.skip, hns⟩, by omega, by omega⟩
  | false =>
    obtain ⟨m1, hm1⟩ : ∃ m, m = (coinM 7 l mx tt).2.1 := ⟨_, rfl⟩
    obtain ⟨t1, ht1⟩ : ∃ t, t = (coinM 7 l mx tt).2.2 := ⟨_, rfl⟩
    rw [← hm1] at b7
    have b5 := coinM_bd 5 l m1 t1
    have b4 := coinM_bd 4 l m1 t1
    have b3 := drawM_bd 3 l (coinM 5 l m1 t1).2.1 (coinM 5 l m1 t1).2.2
    cases h6 : (coinM 5 l m1 t1).1 with
    | true =>
      refine ⟨_, _, [x], _, _, raced_L0_p6 (o' := o.set x.toNat (pl + (drawM 3 l (coinM 5 l m1 t1).2.1 (coinM 5 l m1 t1).2.2).1)) (la' := [x]) hi' hx (by omega) h3 rfl (by rw [← hm1]; omega) (by rw [← hm1, ← ht1]; exact h6) (by rw [← hm1, ← ht1]; omega) (by rw [← hm1, ← ht1]; unfold inR; omega) hx2 x0 hx3 (by rw [← hm1, ← ht1]; unfold inR; omega) hri rfl (by simp) (by rw [← hm1, ← ht1]; simp [List.map_set]) rfl rfl rfl rfl rfl, ?_, ?_, ?_⟩
      · rw [← hm1, ← ht1]; exact ⟨fin _ b3.1 (by omega), fns _ b3.1⟩
      · rw [← hm1, ← ht1]; omega
      · rw [← hm1, ← ht1]; omega
    | false =>
      refine ⟨_, _, [x], _, _, raced_L0_p7 (o' := o.set x.toNat pl) (la' := [x]) hi' hx (by omega) h3 rfl (by rw [← hm1]; omega) (by rw [← hm1, ← ht1]; exact h6) hx2 x0 hx3 (by unfold inR; omega) hri rfl (by simp) (by simp [List.map_set]) rfl rfl rfl rfl rfl, ⟨fin0, fns0⟩, ?_, ?_⟩
      · rw [← hm1, ← ht1]; omega
      · rw [← hm1, ← ht1]; omega
theorem raced2_loop {n : Int} {l : List Int} {nx st : Int} (hn : (shufM n l nx st).1.length ≤ 15) : ∀ (k i : Nat) (o : List Int) (pl : Int) (la : List Int) (mx tt : Int), KL.RInv (shufM n l nx st).1 n.toNat i o pl la → NSh o → i + k = (shufM n l nx st).1.length → 0 ≤ mx → mx + 4 * k ≤ 900000000 →
    ∃ (o' : List Int) (pl' : Int) (la' : List Int) (mx' tt' : Int), LoopOK Tryz.prog 1 (sub (cd Tryz.f67) [1, 1, 1, 1, 0, 1, 0, 0]) (raced_S0 n false l nx st i o.length (o.map intP) pl la.length (la.map intP) mx tt) (.exit 0) (raced_S0 n false l nx st (i + k) o'.length (o'.map intP) pl' la'.length (la'.map intP) mx' tt') ∧ (KL.RInv (shufM n l nx st).1 n.toNat (i + k) o' pl' la' ∧ NSh o') ∧ mx ≤ mx' ∧ mx' ≤ mx + 4 * k
  | 0, i, o, pl, la, mx, tt, h, hs, hk, h0, h1 => ⟨o, pl, la, mx, tt, .exit (raced_L0_p8 (by omega)) (by simp), ⟨h, hs⟩, by omega, by omega⟩
  | k + 1, i, o, pl, la, mx, tt, h, hs, hk, h0, h1 => by
    obtain ⟨o1, pl1, la1, m1, t1, c1, ⟨i1, s1⟩, b1, b2⟩ := raced2_step (tt := tt) h hs (by omega) (by omega) ⟨h0, by omega⟩
    obtain ⟨o2, pl2, la2, m2, t2, c2, i2, b3, b4⟩ := raced2_loop hn k (i + 1) o1 pl1 la1 m1 t1 i1 s1 (by omega) (by omega) (by omega)
    rw [show i + 1 + k = i + (k + 1) by omega] at c2 i2
    exact ⟨o2, pl2, la2, m2, t2, .step c1 c2, i2, by omega, by omega⟩
theorem raced2_ex (n : Int) (l : List Int) (nx st : Int) (h : 0 ≤ nx ∧ nx ≤ 1000000) (hn : 0 ≤ n ∧ n ≤ 15) : ∃ r : List Int × Int × Int, FMM Tryz.prog 67 [.ptr 0 0, .p (intP n), .kb false] [some (deckO l nx st)] (.own 1) [some (deckO l r.2.1 r.2.2), some (.row 3 r.1.length (r.1.map intP))] ∧ (KL.RaceOK n.toNat r.1 ∧ NSh r.1) ∧ nx ≤ r.2.1 ∧ r.2.1 ≤ nx + 100 := by
  obtain ⟨hp, b1, b2⟩ := shufM_perm n l nx st
  have hl : (shufM n l nx st).1.length = n.toNat := by rw [hp.length_eq]; simp [upL]
  obtain ⟨o, pl, la, mx, tt, hL, ⟨hI, hN⟩, b3, b4⟩ := raced2_loop (l := l) (nx := nx) (st := st) (n := n) (by omega) n.toNat 0 (List.replicate n.toNat 0) 1 [] (shufM n l nx st).2.1 (shufM n l nx st).2.2 KL.RInv.start (fun p hp => by rw [List.count_replicate]; split <;> simp_all) (by omega) (by omega) (by omega)
  refine ⟨(o, mx, tt), FMM.kb (raced_p0 (by omega) h (by omega) (i'0 := n.toNat) (pl'2 := pl) (la'3 := la) (o'1 := o) (mx'4 := mx) (tt'5 := tt) ?_), ⟨hI.race (by omega), hN⟩, by dsimp only; omega, by dsimp only; omega⟩
  rw [List.length_replicate, List.map_replicate, Nat.zero_add] at hL
  exact hL
open Classical in
noncomputable def racedN (n : Int) (l : List Int) (nx st : Int) : List Int × Int × Int := if h : (0 ≤ nx ∧ nx ≤ 1000000) ∧ 0 ≤ n ∧ n ≤ 15 then Classical.choose (raced2_ex n l nx st h.1 h.2) else ([], nx, st)
theorem racedN_spec (n : Int) (l : List Int) (nx st : Int) (h : 0 ≤ nx ∧ nx ≤ 1000000) (hn : 0 ≤ n ∧ n ≤ 15) : FMM Tryz.prog 67 [.ptr 0 0, .p (intP n), .kb false] [some (deckO l nx st)] (.own 1) [some (deckO l (racedN n l nx st).2.1 (racedN n l nx st).2.2), some (.row 3 (racedN n l nx st).1.length ((racedN n l nx st).1.map intP))] ∧ (KL.RaceOK n.toNat (racedN n l nx st).1 ∧ NSh (racedN n l nx st).1) ∧ nx ≤ (racedN n l nx st).2.1 ∧ (racedN n l nx st).2.1 ≤ nx + 100 := by
  unfold racedN
  rw [dif_pos ⟨h, hn⟩]
  exact Classical.choose_spec (raced2_ex n l nx st h hn)
theorem raced2_eq {r : List Int} {nx' st' : Int} (n : Int) (l : List Int) (nx st : Int) (h : 0 ≤ nx ∧ nx ≤ 1000000) (hn : 0 ≤ n ∧ n ≤ 15) (e : racedN n l nx st = (r, nx', st')) : FMM Tryz.prog 67 [.ptr 0 0, .p (intP n), .kb false] [some (deckO l nx st)] (.own 1) [some (deckO l nx' st'), some (.row 3 r.length (r.map intP))] := by
  have := (racedN_spec n l nx st h hn).1
  rw [e] at this
  exact this
def lfn_S0 (c : Cup) (l : List Int) (j : Nat) (dnn : Nat) (dnc : List PV) (mx : Int) (tt : Int) : St := ⟨fr 23 [(0, (.ptr 0 0)), (3, (.ptr 1 0)), (4, (.p nilS)), (5, (.own 2)), (11, (.p (intP (c.ra - (c.done.length : Int))))), (12, (.p (intP (j : Int))))], [some (deckO l mx tt), some (.box 25 [(.p (intP c.sk)), (.p (intP c.ra)), (.p (intP c.be)), (.p (intsP c.pts)), (.p (rowsP c.done))]), some (.row 22 dnn dnc)]⟩
theorem lfn_p0 {c : Cup} {l : List Int} {nx st : Int} {j'0 : Nat} {dn'1 : List (List Int)} {mx'2 tt'3 : Int} (h0 : inR (c.ra - (c.done.length : Int))) (hl1 : LoopOK Tryz.prog 1 zU10c1 (lfn_S0 c l 0 0 [] nx st) (.exit 0) (lfn_S0 c l j'0 dn'1.length (dn'1.map intsP) mx'2 tt'3)) : FMM Tryz.prog 66 [(.ptr 0 0), (.p (cupP c))] [some (deckO l nx st)] (.p (rowsP dn'1)) [some (deckO l mx'2 tt'3)] := by
  exact FMM.fin (k := 1) (g := ⟨[], [], [2], []⟩) rfl Tryz.func66 rfl (o := [.k 8 ⟨(rng [(1, 2), (6, 5), (13, 9)]), [1, 2], [], [(5, 22)]⟩ (.exit 0) (lfn_S0 c l j'0 dn'1.length (dn'1.map intsP) mx'2 tt'3)]) (l := [_, _]) (by kernel_rfl) (gc hl1.code (gc h0 gn))
theorem lfn_L0_p0 {c : Cup} {l : List Int} {j : Nat} {dn : List (List Int)} {mx tt : Int} {r100 : List Int} {m101 t102 : Int} {j' : Nat} {dn' : List (List Int)} (h0 : (j : Int) < (c.ra - (c.done.length : Int))) (h1 : 0 ≤ mx ∧ mx ≤ 1000000) (h2 : 0 ≤ c.sk ∧ c.sk ≤ 15) (h3 : racedN c.sk l mx tt = (r100, m101, t102)) (h4 : [(intsP r100)].length = 1 * 1 ∧ dn.length + 1 ≤ 1000000) (h5 : inR (((j + 1) : Nat) : Int)) (ej' : j' = (j + 1)) (edn'n : dn'.length = (dn.length + 1)) (edn'c : dn'.map intsP = ((dn.map intsP) ++ [(intsP r100)])) : CodeOK Tryz.prog 1 zU10c1 (lfn_S0 c l j dn.length (dn.map intsP) mx tt) .normal (lfn_S0 c l j' dn'.length (dn'.map intsP) m101 t102) := by
  subst ej'
  have raw : CodeOK Tryz.prog 1 zU10c1 (lfn_S0 c l j dn.length (dn.map intsP) mx tt) .normal (lfn_S0 c l (j + 1) (dn.length + 1) ((dn.map intsP) ++ [(intsP r100)]) m101 t102) := CodeOK.fin (g := ⟨(rng [(1, 2), (6, 5), (13, 9)]), [1, 5], [], []⟩) (o := [.b true, .c (.own 3) [(0, (deckO l m101 t102)), (3, (.row 3 r100.length (r100.map intP)))]]) (l := [_, _, FC Tryz.prog 67 [(.ptr 0 0), (.p (intP c.sk)), (.kb false)] [(0, (deckO l mx tt))] 3 (.own 3) [(0, (deckO l m101 t102)), (3, (.row 3 r100.length (r100.map intP)))], _]) (by kernel_rfl) (gc h5 (gc h4 (gc (FMM.fc (ids := [0]) (raced2_eq c.sk l mx tt h1 h2 h3) (by kernel_rfl)) (gc (q_lt h0) gn))))
  exact raw.cast (by rw [edn'n, edn'c])
theorem lfn_L0_p1 {c : Cup} {l : List Int} {j : Nat} {dn : List (List Int)} {mx tt : Int} (h0 : (c.ra - (c.done.length : Int)) ≤ (j : Int)) : CodeOK Tryz.prog 1 zU10c1 (lfn_S0 c l j dn.length (dn.map intsP) mx tt) (.exit 0) (lfn_S0 c l j dn.length (dn.map intsP) mx tt) := by
  exact CodeOK.fin (g := ⟨(rng [(1, 2), (6, 5), (13, 9)]), [1, 2], [], []⟩) (o := [.b false]) (l := [_]) (by kernel_rfl) (gc (q_ltF h0) gn)
theorem lfn_dn {c : Cup} {l : List Int} (hV : KL.Valid c) : ∀ (k j : Nat) (dn : List (List Int)) (mx tt : Int), (j : Int) + k = c.ra - c.done.length → dn.length = j → (∀ r ∈ dn, KL.RaceOK c.sk.toNat r ∧ NSh r) → 0 ≤ mx → mx + 100 * k ≤ 900000 →
    ∃ (dn' : List (List Int)) (mx' tt' : Int), LoopOK Tryz.prog 1 zU10c1 (lfn_S0 c l j dn.length (dn.map intsP) mx tt) (.exit 0) (lfn_S0 c l (j + k) dn'.length (dn'.map intsP) mx' tt') ∧ dn'.length = j + k ∧ (∀ r ∈ dn', KL.RaceOK c.sk.toNat r ∧ NSh r) ∧ mx ≤ mx' ∧ mx' ≤ mx + 100 * k
  | 0, j, dn, mx, tt, hk, hl, h, h0, h1 => ⟨dn, mx, tt, .exit (lfn_L0_p1 (by omega)) (by simp), hl, h, by omega, by omega⟩
  | k + 1, j, dn, mx, tt, hk, hl, h, h0, h1 => by
    have s1 := hV.sk1
    have s2 := hV.sk2
    have r2 := hV.ra2
    obtain ⟨_, q1, q2, q3⟩ := racedN_spec c.sk l mx tt ⟨h0, by omega⟩ (by omega)
    have c1 := lfn_L0_p0 (c := c) (l := l) (j := j) (dn := dn) (mx := mx) (tt := tt) (dn' := dn ++ [(racedN c.sk l mx tt).1]) (by omega) ⟨h0, by omega⟩ (by omega) (show racedN c.sk l mx tt = ((racedN c.sk l mx tt).1, (racedN c.sk l mx tt).2.1, (racedN c.sk l mx tt).2.2) from rfl) (by simp; omega) (inR_nat (by omega)) rfl (by simp) (by simp)
    obtain ⟨dn2, m2, t2, c2, l2, i2, b1, b2⟩ := lfn_dn hV k (j + 1) (dn ++ [(racedN c.sk l mx tt).1]) (racedN c.sk l mx tt).2.1 (racedN c.sk l mx tt).2.2 (by omega) (by simp; omega) (fun r hr => by
      rcases List.mem_append.1 hr with hr | hr
      · exact h r hr
      · simp at hr; rw [hr]; exact q1) (by omega) (by omega)
    rw [show j + 1 + k = j + (k + 1) by omega] at c2 l2
    exact ⟨dn2, m2, t2, .step c1 c2, l2, i2, by omega, by omega⟩
structure LeftN (c : Cup) (nx : Int) (r : List (List Int) × Int × Int) : Prop where
  left : LeftOK c nx r
  ns : ∀ x ∈ r.1, NSh x
theorem leftN_ex (c : Cup) (l : List Int) (nx st : Int) (hV : KL.Valid c) (h : 0 ≤ nx ∧ nx ≤ 100000) : ∃ r : List (List Int) × Int × Int, FMM Tryz.prog 66 [.ptr 0 0, .p (cupP c)] [some (deckO l nx st)] (.p (rowsP r.1)) [some (deckO l r.2.1 r.2.2)] ∧ LeftN c nx r := by
  have r2 := hV.ra2
  have d1 := hV.dn
  obtain ⟨dn, mx, tt, L, l2, i2, b1, b2⟩ := lfn_dn (l := l) hV (c.ra - c.done.length).toNat 0 [] nx st (by omega) rfl (by simp) (by omega) (by omega)
  exact ⟨(dn, mx, tt), lfn_p0 (by unfold inR; omega) L, ⟨⟨by dsimp only; omega, fun r hr => (i2 r hr).1, b1, by dsimp only; omega⟩, fun r hr => (i2 r hr).2⟩⟩
open Classical in
noncomputable def leftN (c : Cup) (l : List Int) (nx st : Int) : List (List Int) × Int × Int := if h : KL.Valid c ∧ 0 ≤ nx ∧ nx ≤ 100000 then Classical.choose (leftN_ex c l nx st h.1 h.2) else ([], nx, st)
theorem leftN_spec (c : Cup) (l : List Int) (nx st : Int) (hV : KL.Valid c) (h : 0 ≤ nx ∧ nx ≤ 100000) : FMM Tryz.prog 66 [.ptr 0 0, .p (cupP c)] [some (deckO l nx st)] (.p (rowsP (leftN c l nx st).1)) [some (deckO l (leftN c l nx st).2.1 (leftN c l nx st).2.2)] ∧ LeftN c nx (leftN c l nx st) := by
  unfold leftN
  rw [dif_pos ⟨hV, h⟩]
  exact Classical.choose_spec (leftN_ex c l nx st hV h)
theorem leftN_eq {r : List (List Int)} {nx' st' : Int} (c : Cup) (l : List Int) (nx st : Int) (hV : KL.Valid c) (h : 0 ≤ nx ∧ nx ≤ 100000) (e : leftN c l nx st = (r, nx', st')) : FMM Tryz.prog 66 [.ptr 0 0, .p (cupP c)] [some (deckO l nx st)] (.p (rowsP r)) [some (deckO l nx' st')] := by
  have := (leftN_spec c l nx st hV h).1
  rw [e] at this
  exact this
structure FurN (c : Cup) (F : List (List Int)) : Prop where
  fur : Fur c F
  ns : ∀ x ∈ F, NSh x
theorem furN_left {c : Cup} {nx : Int} {r : List (List Int) × Int × Int} (hV : KL.Valid c) (h : LeftN c nx r) : FurN c r.1 := ⟨⟨h.left.len, valid_left hV h.left⟩, h.ns⟩
theorem furN_won {c : Cup} (hV : KL.Valid c) {s : Nat} (hs : (s : Int) < c.sk) : FurN c (wonM c s) := by
  refine ⟨fur_won hV hs, fun x hx => ?_⟩
  unfold wonM at hx
  rw [(List.mem_replicate.1 hx).2]
  intro p hp
  have h := KL.count_set_le (l := List.replicate c.sk.toNat (0 : Int)) (i := s) (x := 1) (y := p)
  have h0 : (List.replicate c.sk.toNat (0 : Int)).count p = 0 := by
    rw [List.count_replicate, if_neg]
    simpa using fun e => hp e.symm
  unfold KL.wonRace
  split at h <;> omega
theorem shows_ok (c : Cup) (s : Nat) (f : List (List Int)) (hV : KL.Valid c) (hs : (s : Int) < c.sk) (hF : FurN c f) {base : Nat} : FV Tryz.prog 72 [.p (cupP c), .p (intP (s : Int)), .p (rowsP f)] base (.tup [.p (blP (decide (rankM (withC c f) s = 1))), .p (intP 0)]) [] := by
  have d1 := hV.dn
  have r2 := hV.ra2
  have hl := hF.fur.len
  have hrow : ∀ x ∈ f, x.length ≤ 1000 := fun x hx => hF.fur.ok.small.rows x (List.mem_append_right _ hx)
  exact shw_p0 hV (by omega) (by unfold inR; omega) hl hF.fur.ok (by unfold small; omega) (fun x hx => ⟨hrow x hx, hF.ns x hx⟩) (by simp [plT]) hs (by rw [Bool.eq_iff_iff]; simp)
theorem show_yes (c : Cup) (s : Nat) (hV : KL.Valid c) (hs : (s : Int) < c.sk) (h : canM c s = true) {base : Nat} : FV Tryz.prog 75 [.p (cupP c), .p (intP (s : Int))] base (.tup [.p (rowsP (wonM c s)), .p (intP 0)]) [] := by
  have := show_ok c hV s hs (base := base)
  rwa [if_pos h] at this
theorem show_no (c : Cup) (s : Nat) (hV : KL.Valid c) (hs : (s : Int) < c.sk) (h : canM c s = false) {base : Nat} : FV Tryz.prog 75 [.p (cupP c), .p (intP (s : Int))] base (.tup [.p nilS, .p (intP 6)]) [] := by
  have := show_ok c hV s hs (base := base)
  rwa [if_neg (by rw [h]; simp)] at this
theorem against_yes (c : Cup) (s : Nat) (hV : KL.Valid c) (hs : (s : Int) < c.sk) (h : sureM c s = false) : ∃ k, k < c.sk.toNat ∧ KL.passes c s k = true ∧ ∀ nb : Nat, FC Tryz.prog 76 [.p (cupP c), .p (intP (s : Int))] [] nb (.tup [.p (rowsP (wonM c k)), .p (intP 0)]) [] := by
  rcases agn_ok c hV s hs with ⟨k, h1, h2, h3⟩ | ⟨h1, _⟩
  · exact ⟨k, h1, h2, fun nb => (agt_p0 hV (by omega) fun b => (h3 b).fc rfl).fc rfl⟩
  · rw [sureM_iff.2 h1] at h; cases h
theorem against_no (c : Cup) (s : Nat) (hV : KL.Valid c) (hs : (s : Int) < c.sk) (h : sureM c s = true) : ∀ nb : Nat, FC Tryz.prog 76 [.p (cupP c), .p (intP (s : Int))] [] nb (.tup [.p nilS, .p (intP 6)]) [] := by
  rcases agn_ok c hV s hs with ⟨k, h1, h2, h3⟩ | ⟨_, h3⟩
  · rw [sureM_iff.1 h k h1] at h2; cases h2
  · exact fun nb => (agt_p1 hV (by omega) fun b => (h3 b).fc rfl).fc rfl
end
section
open KL
noncomputable abbrev zU11c0 : Code := sub (cd Tryz.f15) [1, 1, 1, 1, 1, 1, 0, 1, 0, 0]
noncomputable abbrev zU11c1 : Code := sub (cd Tryz.f15) [1, 1, 1, 1, 1, 1, 0, 1, 0, 0, 1, 1, 0, 0, 1, 1, 1, 1, 1, 1, 1, 0, 0]
theorem who_small (p : Nat → Bool) {n : Nat} (h : n ≤ 12) : small (whoM p n).length := by
  unfold whoM small
  rw [List.length_map]
  have := List.length_filter_le p (List.range n)
  rw [List.length_range] at this
  omega
theorem dec_eq {n s e : Int} (c : Cup) (hV : KL.Valid c) (h : decM c = (n, s, e)) {base : Nat} : FV Tryz.prog 73 [.p (cupP c)] base (.tup [.p (intP n), .p (intP s), .p (intP e)]) [] := by
  have := dec_ok c hV (base := base)
  rw [h] at this
  exact this
def dcd_S0 (g : List Int) (c0 : Cup) (s : Nat) (mx : Int) (tt : Int) : St := ⟨fr 223 [(5, (.ptr 0 0)), (6, (.ptr 1 0)), (7, (.p (intsP (whoM (canM c0) c0.sk.toNat)))), (8, (.p (intP 0))), (9, (.p (intsP (whoM (sureM c0) c0.sk.toNat)))), (52, (.p (intP c0.sk))), (53, (.p (intP (s : Int))))], [some (.box 25 [(.p (intP c0.sk)), (.p (intP c0.ra)), (.p (intP c0.be)), (.p (intsP c0.pts)), (.p (rowsP c0.done))]), some (deckO g mx tt)]⟩
abbrev zU110 (c0 : Cup) := whoM (sureM c0) c0.sk.toNat
abbrev zU111 (c0 : Cup) := whoM (canM c0) c0.sk.toNat
theorem dcd_p1 {l g : List Int} {c0 : Cup} {m1 t2 : Int} {s'3 : Nat} {mx'4 tt'5 n6 s7 e8 : Int} (h0 : 0 ≤ (0 : Int) ∧ (0 : Int) ≤ 100000) (h1 : 2 ≤ (7 : Int) ∧ (7 : Int) ≤ 12) (h2 : 1 ≤ (8 : Int) ∧ (8 : Int) ≤ 20) (h3 : madeM (7 : Int) (8 : Int) l (0 : Int) (17 : Int) = (c0, m1, t2)) (h4 : KL.Valid c0) (h5 : (((whoM (canM c0) c0.sk.toNat).length : Nat) : Int) ≠ (0 : Int)) (hl6 : LoopOK Tryz.prog 0 zU11c0 (dcd_S0 g c0 0 (0 : Int) (17 : Int)) (.exit 0) (dcd_S0 g c0 s'3 mx'4 tt'5)) (h7 : decM c0 = (n6, s7, e8)) (h8 : e8 = (6 : Int)) (h9 : (((whoM (sureM c0) c0.sk.toNat).length : Nat) : Int) ≠ (1 : Int)) {base : Nat} : FV Tryz.prog 15 [(.p (.sl l.length (l.map byteP))), (.p (.sl g.length (g.map byteP)))] base (.p (blP true)) [] := by
  exact FV.fin Tryz.func15 rfl (o := [.c (.ptr 0 0) [(0, (deckO l 0 (17 : Int)))], .c (.p (cupP c0)) [(0, (deckO l m1 t2))], .c (.ptr 2 0) [(2, (deckO g 0 (17 : Int)))], .c (.tup [(.p (intsP (zU111 c0))), (.p (intP 0))]) [], .c (.tup [(.p (intsP (zU110 c0))), (.p (intP 0))]) [], .b false, .b false, .b false, .b false, .b false, .b false, .b false, .b false, .k 4 ⟨(rng [(0, 5), (10, 12), (25, 27), (54, 101), (215, 2)]), [1, 2], [], []⟩ (.exit 0) (dcd_S0 g c0 s'3 mx'4 tt'5), .c (.tup [(.p (intP n6)), (.p (intP s7)), (.p (intP e8))]) [], .b true, .b true, .b true, .b true, .b true, .c (.p (blP true)) []]) (l := [FC Tryz.prog 19 [] [] 2 (.p (blP true)) [], _, _, _, _, _, FC Tryz.prog 73 [(.p (cupP c0))] [] 2 (.tup [(.p (intP n6)), (.p (intP s7)), (.p (intP e8))]) [], _, _, ((0 : Int) != (0 : Int)) = false, ((0 : Int) != (0 : Int)) = false, ((0 : Int) != (0 : Int)) = false, ((0 : Int) != (0 : Int)) = false, ((0 : Int) != (0 : Int)) = false, ((0 : Int) != (0 : Int)) = false, ((0 : Int) != (0 : Int)) = false, FC Tryz.prog 38 [(.p (cupP c0))] [] 3 (.tup [(.p (intsP (zU110 c0))), (.p (intP 0))]) [], FC Tryz.prog 37 [(.p (cupP c0))] [] 3 (.tup [(.p (intsP (zU111 c0))), (.p (intP 0))]) [], FC Tryz.prog 27 [(.p (.sl g.length (g.map byteP)))] [] 2 (.ptr 2 0) [(2, (deckO g 0 (17 : Int)))], FC Tryz.prog 26 [(.ptr 0 0), (.p (intP 7)), (.p (intP 8))] [(0, (deckO l 0 (17 : Int)))] 1 (.p (cupP c0)) [(0, (deckO l m1 t2))], FC Tryz.prog 27 [(.p (.sl l.length (l.map byteP)))] [] 0 (.ptr 0 0) [(0, (deckO l 0 (17 : Int)))]]) (by kernel_rfl) (gc (FV.fc (awake_ok _) rfl) (gc (q_neT h9) (gc (q_neT h9) (gc (q_neT h9) (gc (q_neT h9) (gc (q_eq h8) (gc (FV.fc (dec_eq c0 h4 h7) rfl) (gc hl6.code (gc (q_ne h5) (gc (by first | decide | simp) (gc (by first | decide | simp) (gc (by first | decide | simp) (gc (by first | decide | simp) (gc (by first | decide | simp) (gc (by first | decide | simp) (gc (by first | decide | simp) (gc (FV.fc (sureE_ok c0 h4) rfl) (gc (FV.fc (canE_ok c0 h4) rfl) (gc (FMM.fc (ids := []) (of_ok g) (by kernel_rfl)) (gc (FMM.fc (ids := [0]) (made_eq (7 : Int) (8 : Int) l (0 : Int) (17 : Int) h0 h1 h2 h3) (by kernel_rfl)) (gc (FMM.fc (ids := []) (of_ok l) (by kernel_rfl)) gn)))))))))))))))))))))
theorem dcd_p2 {l g : List Int} {c0 : Cup} {m1 t2 : Int} {s'3 : Nat} {mx'4 tt'5 n6 s7 e8 : Int} (h0 : 0 ≤ (0 : Int) ∧ (0 : Int) ≤ 100000) (h1 : 2 ≤ (7 : Int) ∧ (7 : Int) ≤ 12) (h2 : 1 ≤ (8 : Int) ∧ (8 : Int) ≤ 20) (h3 : madeM (7 : Int) (8 : Int) l (0 : Int) (17 : Int) = (c0, m1, t2)) (h4 : KL.Valid c0) (h5 : (((whoM (canM c0) c0.sk.toNat).length : Nat) : Int) ≠ (0 : Int)) (hl6 : LoopOK Tryz.prog 0 zU11c0 (dcd_S0 g c0 0 (0 : Int) (17 : Int)) (.exit 0) (dcd_S0 g c0 s'3 mx'4 tt'5)) (h7 : decM c0 = (n6, s7, e8)) (h8 : e8 = (6 : Int)) (h9 : (((whoM (sureM c0) c0.sk.toNat).length : Nat) : Int) = (1 : Int)) (h10 : (((whoM (canM c0) c0.sk.toNat).length : Nat) : Int) ≠ (1 : Int)) {base : Nat} : FV Tryz.prog 15 [(.p (.sl l.length (l.map byteP))), (.p (.sl g.length (g.map byteP)))] base (.p (blP true)) [] := by
  exact FV.fin Tryz.func15 rfl (o := [.c (.ptr 0 0) [(0, (deckO l 0 (17 : Int)))], .c (.p (cupP c0)) [(0, (deckO l m1 t2))], .c (.ptr 2 0) [(2, (deckO g 0 (17 : Int)))], .c (.tup [(.p (intsP (zU111 c0))), (.p (intP 0))]) [], .c (.tup [(.p (intsP (zU110 c0))), (.p (intP 0))]) [], .b false, .b false, .b false, .b false, .b false, .b false, .b false, .b false, .k 4 ⟨(rng [(0, 5), (10, 12), (25, 27), (54, 101), (215, 2)]), [1, 2], [], []⟩ (.exit 0) (dcd_S0 g c0 s'3 mx'4 tt'5), .c (.tup [(.p (intP n6)), (.p (intP s7)), (.p (intP e8))]) [], .b true, .b false, .b false, .b false, .b false, .b true, .c (.p (blP true)) [], .b true]) (l := [_, FC Tryz.prog 19 [] [] 2 (.p (blP true)) [], _, _, _, _, _, _, FC Tryz.prog 73 [(.p (cupP c0))] [] 2 (.tup [(.p (intP n6)), (.p (intP s7)), (.p (intP e8))]) [], _, _, ((0 : Int) != (0 : Int)) = false, ((0 : Int) != (0 : Int)) = false, ((0 : Int) != (0 : Int)) = false, ((0 : Int) != (0 : Int)) = false, ((0 : Int) != (0 : Int)) = false, ((0 : Int) != (0 : Int)) = false, ((0 : Int) != (0 : Int)) = false, FC Tryz.prog 38 [(.p (cupP c0))] [] 3 (.tup [(.p (intsP (zU110 c0))), (.p (intP 0))]) [], FC Tryz.prog 37 [(.p (cupP c0))] [] 3 (.tup [(.p (intsP (zU111 c0))), (.p (intP 0))]) [], FC Tryz.prog 27 [(.p (.sl g.length (g.map byteP)))] [] 2 (.ptr 2 0) [(2, (deckO g 0 (17 : Int)))], FC Tryz.prog 26 [(.ptr 0 0), (.p (intP 7)), (.p (intP 8))] [(0, (deckO l 0 (17 : Int)))] 1 (.p (cupP c0)) [(0, (deckO l m1 t2))], FC Tryz.prog 27 [(.p (.sl l.length (l.map byteP)))] [] 0 (.ptr 0 0) [(0, (deckO l 0 (17 : Int)))]]) (by kernel_rfl) (gc (q_neT h10) (gc (FV.fc (awake_ok _) rfl) (gc (q_neT h10) (gc (q_neF h9) (gc (q_neF h9) (gc (q_neF h9) (gc (q_neF h9) (gc (q_eq h8) (gc (FV.fc (dec_eq c0 h4 h7) rfl) (gc hl6.code (gc (q_ne h5) (gc (by first | decide | simp) (gc (by first | decide | simp) (gc (by first | decide | simp) (gc (by first | decide | simp) (gc (by first | decide | simp) (gc (by first | decide | simp) (gc (by first | decide | simp) (gc (FV.fc (sureE_ok c0 h4) rfl) (gc (FV.fc (canE_ok c0 h4) rfl) (gc (FMM.fc (ids := []) (of_ok g) (by kernel_rfl)) (gc (FMM.fc (ids := [0]) (made_eq (7 : Int) (8 : Int) l (0 : Int) (17 : Int) h0 h1 h2 h3) (by kernel_rfl)) (gc (FMM.fc (ids := []) (of_ok l) (by kernel_rfl)) gn)))))))))))))))))))))))
theorem dcd_p9 {l g : List Int} {c0 : Cup} {m1 t2 : Int} {s'3 : Nat} {mx'4 tt'5 n6 s7 e8 : Int} (h0 : 0 ≤ (0 : Int) ∧ (0 : Int) ≤ 100000) (h1 : 2 ≤ (7 : Int) ∧ (7 : Int) ≤ 12) (h2 : 1 ≤ (8 : Int) ∧ (8 : Int) ≤ 20) (h3 : madeM (7 : Int) (8 : Int) l (0 : Int) (17 : Int) = (c0, m1, t2)) (h4 : KL.Valid c0) (h5 : (((whoM (canM c0) c0.sk.toNat).length : Nat) : Int) ≠ (0 : Int)) (hl6 : LoopOK Tryz.prog 0 zU11c0 (dcd_S0 g c0 0 (0 : Int) (17 : Int)) (.exit 0) (dcd_S0 g c0 s'3 mx'4 tt'5)) (h7 : decM c0 = (n6, s7, e8)) (h8 : e8 ≠ (6 : Int)) (h9 : e8 = (0 : Int)) (h10 : (0 : Int) ≤ n6) (h11 : n6 ≤ (c0.done.length : Int)) (h12 : (whoM (sureM c0) c0.sk.toNat).length ≤ 100000) (h13 : (decide ((whoM (sureM c0) c0.sk.toNat) = ([s7] : List Int))) = true) (h14 : (whoM (canM c0) c0.sk.toNat).length ≤ 100000) (h15 : (decide ((whoM (canM c0) c0.sk.toNat) = ([s7] : List Int))) = true) (h16 : n6 = (0 : Int)) {base : Nat} : FV Tryz.prog 15 [(.p (.sl l.length (l.map byteP))), (.p (.sl g.length (g.map byteP)))] base (.p (blP true)) [] := by
  exact FV.fin Tryz.func15 rfl (o := [.c (.ptr 0 0) [(0, (deckO l 0 (17 : Int)))], .c (.p (cupP c0)) [(0, (deckO l m1 t2))], .c (.ptr 2 0) [(2, (deckO g 0 (17 : Int)))], .c (.tup [(.p (intsP (zU111 c0))), (.p (intP 0))]) [], .c (.tup [(.p (intsP (zU110 c0))), (.p (intP 0))]) [], .b false, .b false, .b false, .b false, .b false, .b false, .b false, .b false, .k 4 ⟨(rng [(0, 5), (10, 12), (25, 27), (54, 101), (215, 2)]), [1, 2], [], []⟩ (.exit 0) (dcd_S0 g c0 s'3 mx'4 tt'5), .c (.tup [(.p (intP n6)), (.p (intP s7)), (.p (intP e8))]) [], .b false, .b false, .b false, .b false, .b false, .b false, .b false, .b false, .b false, .b false, .b false, .b false, .b false, .b false, .c (.p (blP (decide ((zU110 c0) = ([s7] : List Int))))) [], .b false, .b false, .b false, .b false, .b false, .b false, .c (.p (blP (decide ((zU111 c0) = ([s7] : List Int))))) [], .b false, .b false, .b false, .b true, .c (.p (blP true)) []]) (l := [FC Tryz.prog 19 [] [] 4 (.p (blP true)) [], _, _, _, _, FC Tryz.prog 25 [(.p (intsP (zU111 c0))), (.own 3)] [(3, (.row 3 1 [(intP s7)]))] 4 (.p (blP (decide ((zU111 c0) = ([s7] : List Int))))) [], _, _, _, _, _, _, FC Tryz.prog 25 [(.p (intsP (zU110 c0))), (.own 2)] [(2, (.row 3 1 [(intP s7)]))] 3 (.p (blP (decide ((zU110 c0) = ([s7] : List Int))))) [], _, _, _, _, _, _, _, _, _, _, _, _, _, _, FC Tryz.prog 73 [(.p (cupP c0))] [] 2 (.tup [(.p (intP n6)), (.p (intP s7)), (.p (intP e8))]) [], _, _, ((0 : Int) != (0 : Int)) = false, ((0 : Int) != (0 : Int)) = false, ((0 : Int) != (0 : Int)) = false, ((0 : Int) != (0 : Int)) = false, ((0 : Int) != (0 : Int)) = false, ((0 : Int) != (0 : Int)) = false, ((0 : Int) != (0 : Int)) = false, FC Tryz.prog 38 [(.p (cupP c0))] [] 3 (.tup [(.p (intsP (zU110 c0))), (.p (intP 0))]) [], FC Tryz.prog 37 [(.p (cupP c0))] [] 3 (.tup [(.p (intsP (zU111 c0))), (.p (intP 0))]) [], FC Tryz.prog 27 [(.p (.sl g.length (g.map byteP)))] [] 2 (.ptr 2 0) [(2, (deckO g 0 (17 : Int)))], FC Tryz.prog 26 [(.ptr 0 0), (.p (intP 7)), (.p (intP 8))] [(0, (deckO l 0 (17 : Int)))] 1 (.p (cupP c0)) [(0, (deckO l m1 t2))], FC Tryz.prog 27 [(.p (.sl l.length (l.map byteP)))] [] 0 (.ptr 0 0) [(0, (deckO l 0 (17 : Int)))]]) (by kernel_rfl) (gc (FV.fc (awake_ok _) rfl) (gc (q_eq h16) (gc (q_notF h15) (gc (q_notF h13) (gc (q_notF h13) (gc (FV.view (args' := [(.p (intsP (zU111 c0))), (.p (.sl 1 [(intP s7)]))]) (eqi_ok (zU111 c0) ([s7] : List Int) h14) (by kernel_rfl) (by kernel_rfl) (by kernel_rfl)) (gc (q_notF h13) (gc (q_notF h13) (gc (q_notF h13) (gc (q_notF h13) (gc (q_ltF h11) (gc (q_ltF h11) (gc (FV.view (args' := [(.p (intsP (zU110 c0))), (.p (.sl 1 [(intP s7)]))]) (eqi_ok (zU110 c0) ([s7] : List Int) h12) (by kernel_rfl) (by kernel_rfl) (by kernel_rfl)) (gc (q_ltF h11) (gc (q_ltF h11) (gc (q_ltF h11) (gc (q_ltF h11) (gc (q_ltF h10) (gc (q_ltF h10) (gc (q_ltF h10) (gc (q_ltF h10) (gc (q_ltF h10) (gc (q_ltF h10) (gc (q_neF h9) (gc (q_neF h9) (gc (q_neF h9) (gc (q_ne h8) (gc (FV.fc (dec_eq c0 h4 h7) rfl) (gc hl6.code (gc (q_ne h5) (gc (by first | decide | simp) (gc (by first | decide | simp) (gc (by first | decide | simp) (gc (by first | decide | simp) (gc (by first | decide | simp) (gc (by first | decide | simp) (gc (by first | decide | simp) (gc (FV.fc (sureE_ok c0 h4) rfl) (gc (FV.fc (canE_ok c0 h4) rfl) (gc (FMM.fc (ids := []) (of_ok g) (by kernel_rfl)) (gc (FMM.fc (ids := [0]) (made_eq (7 : Int) (8 : Int) l (0 : Int) (17 : Int) h0 h1 h2 h3) (by kernel_rfl)) (gc (FMM.fc (ids := []) (of_ok l) (by kernel_rfl)) gn))))))))))))))))))))))))))))))))))))))))))
theorem dcd_p10 {l g : List Int} {c0 : Cup} {m1 t2 : Int} {s'3 : Nat} {mx'4 tt'5 n6 s7 e8 : Int} {l9 : List (List Int)} {n10 s11 e12 : Int} (h0 : 0 ≤ (0 : Int) ∧ (0 : Int) ≤ 100000) (h1 : 2 ≤ (7 : Int) ∧ (7 : Int) ≤ 12) (h2 : 1 ≤ (8 : Int) ∧ (8 : Int) ≤ 20) (h3 : madeM (7 : Int) (8 : Int) l (0 : Int) (17 : Int) = (c0, m1, t2)) (h4 : KL.Valid c0) (h5 : (((whoM (canM c0) c0.sk.toNat).length : Nat) : Int) ≠ (0 : Int)) (hl6 : LoopOK Tryz.prog 0 zU11c0 (dcd_S0 g c0 0 (0 : Int) (17 : Int)) (.exit 0) (dcd_S0 g c0 s'3 mx'4 tt'5)) (h7 : decM c0 = (n6, s7, e8)) (h8 : e8 ≠ (6 : Int)) (h9 : e8 = (0 : Int)) (h10 : (0 : Int) ≤ n6) (h11 : n6 ≤ (c0.done.length : Int)) (h12 : (whoM (sureM c0) c0.sk.toNat).length ≤ 100000) (h13 : (decide ((whoM (sureM c0) c0.sk.toNat) = ([s7] : List Int))) = true) (h14 : (whoM (canM c0) c0.sk.toNat).length ≤ 100000) (h15 : (decide ((whoM (canM c0) c0.sk.toNat) = ([s7] : List Int))) = true) (h16 : n6 ≠ (0 : Int)) (h17 : KL.Small c0) (h18 : inR (n6 - (1 : Int))) (h19 : 0 ≤ (0 : Int) ∧ (0 : Int) ≤ (n6 - (1 : Int)) ∧ (n6 - (1 : Int)) ≤ (c0.done.length : Int) ∧ (c0.done.map intsP).length = c0.done.length * 1) (h20 : ((n6 - (1 : Int)).toNat - 0) = l9.length) (h21 : ((c0.done.map intsP).take ((n6 - (1 : Int)).toNat * 1)) = l9.map intsP) (h22 : KL.Valid (⟨c0.sk, c0.ra, c0.be, c0.pts, l9⟩ : Cup)) (h23 : decM (⟨c0.sk, c0.ra, c0.be, c0.pts, l9⟩ : Cup) = (n10, s11, e12)) (h24 : e12 = (6 : Int)) {base : Nat} : FV Tryz.prog 15 [(.p (.sl l.length (l.map byteP))), (.p (.sl g.length (g.map byteP)))] base (.p (blP true)) [] := by
  exact FV.fin Tryz.func15 rfl (o := [.c (.ptr 0 0) [(0, (deckO l 0 (17 : Int)))], .c (.p (cupP c0)) [(0, (deckO l m1 t2))], .c (.ptr 2 0) [(2, (deckO g 0 (17 : Int)))], .c (.tup [(.p (intsP (zU111 c0))), (.p (intP 0))]) [], .c (.tup [(.p (intsP (zU110 c0))), (.p (intP 0))]) [], .b false, .b false, .b false, .b false, .b false, .b false, .b false, .b false, .k 4 ⟨(rng [(0, 5), (10, 12), (25, 27), (54, 101), (215, 2)]), [1, 2], [], []⟩ (.exit 0) (dcd_S0 g c0 s'3 mx'4 tt'5), .c (.tup [(.p (intP n6)), (.p (intP s7)), (.p (intP e8))]) [], .b false, .b false, .b false, .b false, .b false, .b false, .b false, .b false, .b false, .b false, .b false, .b false, .b false, .b false, .c (.p (blP (decide ((zU110 c0) = ([s7] : List Int))))) [], .b false, .b false, .b false, .b false, .b false, .b false, .c (.p (blP (decide ((zU111 c0) = ([s7] : List Int))))) [], .b false, .b false, .b false, .b false, .c (.p (cupP c0)) [], .c (.tup [(.p (intP n10)), (.p (intP s11)), (.p (intP e12))]) [], .b true, .c (.p (blP true)) [], .b true]) (l := [_, FC Tryz.prog 19 [] [] 5 (.p (blP true)) [], _, FC Tryz.prog 73 [(.p (.agg [(intP c0.sk), (intP c0.ra), (intP c0.be), (intsP c0.pts), (.sl ((n6 - (1 : Int)).toNat - 0) ((c0.done.map intsP).take ((n6 - (1 : Int)).toNat * 1)))]))] [] 5 (.tup [(.p (intP n10)), (.p (intP s11)), (.p (intP e12))]) [], _, _, FC Tryz.prog 20 [(.p (cupP c0))] [] 4 (.p (cupP c0)) [], _, _, _, _, FC Tryz.prog 25 [(.p (intsP (zU111 c0))), (.own 3)] [(3, (.row 3 1 [(intP s7)]))] 4 (.p (blP (decide ((zU111 c0) = ([s7] : List Int))))) [], _, _, _, _, _, _, FC Tryz.prog 25 [(.p (intsP (zU110 c0))), (.own 2)] [(2, (.row 3 1 [(intP s7)]))] 3 (.p (blP (decide ((zU110 c0) = ([s7] : List Int))))) [], _, _, _, _, _, _, _, _, _, _, _, _, _, _, FC Tryz.prog 73 [(.p (cupP c0))] [] 2 (.tup [(.p (intP n6)), (.p (intP s7)), (.p (intP e8))]) [], _, _, ((0 : Int) != (0 : Int)) = false, ((0 : Int) != (0 : Int)) = false, ((0 : Int) != (0 : Int)) = false, ((0 : Int) != (0 : Int)) = false, ((0 : Int) != (0 : Int)) = false, ((0 : Int) != (0 : Int)) = false, ((0 : Int) != (0 : Int)) = false, FC Tryz.prog 38 [(.p (cupP c0))] [] 3 (.tup [(.p (intsP (zU110 c0))), (.p (intP 0))]) [], FC Tryz.prog 37 [(.p (cupP c0))] [] 3 (.tup [(.p (intsP (zU111 c0))), (.p (intP 0))]) [], FC Tryz.prog 27 [(.p (.sl g.length (g.map byteP)))] [] 2 (.ptr 2 0) [(2, (deckO g 0 (17 : Int)))], FC Tryz.prog 26 [(.ptr 0 0), (.p (intP 7)), (.p (intP 8))] [(0, (deckO l 0 (17 : Int)))] 1 (.p (cupP c0)) [(0, (deckO l m1 t2))], FC Tryz.prog 27 [(.p (.sl l.length (l.map byteP)))] [] 0 (.ptr 0 0) [(0, (deckO l 0 (17 : Int)))]]) (by kernel_rfl) (gc (q_eq h24) (gc (FV.fc (awake_ok _) rfl) (gc (q_eq h24) (gc (FV.fc (by rw [show ((.sl ((n6 - (1 : Int)).toNat - 0) ((c0.done.map intsP).take ((n6 - (1 : Int)).toNat * 1))) : PV) = rowsP l9 from sl_cast h20 h21]; exact (dec_eq (⟨c0.sk, c0.ra, c0.be, c0.pts, l9⟩ : Cup) h22 h23)) rfl) (gc h19 (gc h18 (gc (FV.fc (cln_ok c0 h17) rfl) (gc (q_ne h16) (gc (q_notF h15) (gc (q_notF h13) (gc (q_notF h13) (gc (FV.view (args' := [(.p (intsP (zU111 c0))), (.p (.sl 1 [(intP s7)]))]) (eqi_ok (zU111 c0) ([s7] : List Int) h14) (by kernel_rfl) (by kernel_rfl) (by kernel_rfl)) (gc (q_notF h13) (gc (q_notF h13) (gc (q_notF h13) (gc (q_notF h13) (gc (q_ltF h11) (gc (q_ltF h11) (gc (FV.view (args' := [(.p (intsP (zU110 c0))), (.p (.sl 1 [(intP s7)]))]) (eqi_ok (zU110 c0) ([s7] : List Int) h12) (by kernel_rfl) (by kernel_rfl) (by kernel_rfl)) (gc (q_ltF h11) (gc (q_ltF h11) (gc (q_ltF h11) (gc (q_ltF h11) (gc (q_ltF h10) (gc (q_ltF h10) (gc (q_ltF h10) (gc (q_ltF h10) (gc (q_ltF h10) (gc (q_ltF h10) (gc (q_neF h9) (gc (q_neF h9) (gc (q_neF h9) (gc (q_ne h8) (gc (FV.fc (dec_eq c0 h4 h7) rfl) (gc hl6.code (gc (q_ne h5) (gc (by first | decide | simp) (gc (by first | decide | simp) (gc (by first | decide | simp) (gc (by first | decide | simp) (gc (by first | decide | simp) (gc (by first | decide | simp) (gc (by first | decide | simp) (gc (FV.fc (sureE_ok c0 h4) rfl) (gc (FV.fc (canE_ok c0 h4) rfl) (gc (FMM.fc (ids := []) (of_ok g) (by kernel_rfl)) (gc (FMM.fc (ids := [0]) (made_eq (7 : Int) (8 : Int) l (0 : Int) (17 : Int) h0 h1 h2 h3) (by kernel_rfl)) (gc (FMM.fc (ids := []) (of_ok l) (by kernel_rfl)) gn))))))))))))))))))))))))))))))))))))))))))))))))
def dcd_S1 (g : List Int) (c0 : Cup) (s : Nat) (t : Nat) (mz : Int) (tz : Int) : St := ⟨fr 223 [(5, (.ptr 0 0)), (6, (.ptr 1 0)), (7, (.p (intsP (whoM (canM c0) c0.sk.toNat)))), (8, (.p (intP 0))), (9, (.p (intsP (whoM (sureM c0) c0.sk.toNat)))), (11, (.p (intP (s : Int)))), (52, (.p (intP c0.sk))), (53, (.p (intP (s : Int)))), (54, (.p (blP (decide ((s : Int) < c0.sk))))), (55, (.p (intP (s : Int)))), (122, (.p (intP (t : Int))))], [some (.box 25 [(.p (intP c0.sk)), (.p (intP c0.ra)), (.p (intP c0.be)), (.p (intsP c0.pts)), (.p (rowsP c0.done))]), some (deckO g mz tz)]⟩
theorem dcd_L0_p8 {g : List Int} {c0 : Cup} {s : Nat} {mx tt : Int} {k100 t'101 : Nat} {mz'102 tz'103 : Int} {s' : Nat} (h0 : (s : Int) < c0.sk) (h1 : KL.Valid c0) (h2 : ((s : Nat) : Int) < c0.sk) (h3 : canM c0 s = true) (h4 : ∀ nb : Nat, FC Tryz.prog 76 [(.p (cupP c0)), (.p (intP (s : Int)))] [] nb (.tup [(.p (rowsP (wonM c0 k100))), (.p (intP 0))]) []) (h5 : small (whoM (canM c0) c0.sk.toNat).length) (h6 : (((0 : Int) == (0 : Int)) == ((whoM (canM c0) c0.sk.toNat).any fun x => decide ((s : Int) = x))) = true) (h7 : small (whoM (sureM c0) c0.sk.toNat).length) (h8 : (((0 : Int) == (0 : Int)) == ((whoM (sureM c0) c0.sk.toNat).any fun x => decide ((s : Int) = x))) = false) (h9 : ((whoM (sureM c0) c0.sk.toNat).any fun x => decide ((s : Int) = x)) = false) (h10 : FurN c0 (wonM c0 s)) (h11 : (decide (rankM (withC c0 (wonM c0 s)) s = 1)) = true) (h12 : FurN c0 (wonM c0 k100)) (h13 : (decide (rankM (withC c0 (wonM c0 k100)) s = 1)) = false) (hl14 : LoopOK Tryz.prog 0 zU11c1 (dcd_S1 g c0 s 0 mx tt) (.exit 2) (dcd_S1 g c0 s t'101 mz'102 tz'103)) (h15 : inR (((s + 1) : Nat) : Int)) (es' : s' = (s + 1)) : CodeOK Tryz.prog 0 zU11c0 (dcd_S0 g c0 s mx tt) .normal (dcd_S0 g c0 s' mz'102 tz'103) := by
  subst es'
  exact CodeOK.fin (g := ⟨(rng [(0, 5), (10, 12), (25, 27), (54, 101), (215, 2)]), [0, 1], [], []⟩) (o := [.b true, .c (.tup [(.p (rowsP (wonM c0 s))), (.p (intP 0))]) [], .c (.tup [(.p (rowsP (wonM c0 k100))), (.p (intP 0))]) [], .c (.p (blP ((zU111 c0).any fun x => decide ((s : Int) = x)))) [], .b false, .b false, .b false, .b false, .b false, .c (.p (blP ((zU110 c0).any fun x => decide ((s : Int) = x)))) [], .b false, .b false, .b false, .b false, .b false, .c (.p (blP ((zU110 c0).any fun x => decide ((s : Int) = x)))) [], .b false, .b false, .b false, .b false, .b false, .b false, .b false, .b false, .b true, .c (.tup [(.p (blP (decide (rankM (withC c0 (wonM c0 s)) s = 1)))), (.p (intP 0))]) [], .b false, .b false, .b false, .b false, .b true, .c (.tup [(.p (blP (decide (rankM (withC c0 (wonM c0 k100)) s = 1)))), (.p (intP 0))]) [], .b false, .b false, .b false, .k 3 ⟨(rng [(0, 5), (10, 1), (12, 10), (25, 27), (56, 66), (123, 31), (215, 2)]), [0, 1], [], []⟩ (.exit 2) (dcd_S1 g c0 s t'101 mz'102 tz'103)]) (l := [_, _, _, ((0 : Int) != (0 : Int)) = false, ((0 : Int) != (0 : Int)) = false, FC Tryz.prog 72 [(.p (cupP c0)), (.p (intP (s : Int))), (.p (rowsP (wonM c0 k100)))] [] 2 (.tup [(.p (blP (decide (rankM (withC c0 (wonM c0 k100)) s = 1)))), (.p (intP 0))]) [], ((0 : Int) == (0 : Int)) = true, _, ((0 : Int) != (0 : Int)) = false, ((0 : Int) != (0 : Int)) = false, ((0 : Int) != (0 : Int)) = false, FC Tryz.prog 72 [(.p (cupP c0)), (.p (intP (s : Int))), (.p (rowsP (wonM c0 s)))] [] 2 (.tup [(.p (blP (decide (rankM (withC c0 (wonM c0 s)) s = 1)))), (.p (intP 0))]) [], ((0 : Int) == (0 : Int)) = true, _, _, _, _, _, _, _, _, FC Tryz.prog 41 [(.p (intsP (zU110 c0))), (.p (intP (s : Int)))] [] 2 (.p (blP ((zU110 c0).any fun x => decide ((s : Int) = x)))) [], _, _, _, _, _, FC Tryz.prog 41 [(.p (intsP (zU110 c0))), (.p (intP (s : Int)))] [] 2 (.p (blP ((zU110 c0).any fun x => decide ((s : Int) = x)))) [], _, _, _, _, _, FC Tryz.prog 41 [(.p (intsP (zU111 c0))), (.p (intP (s : Int)))] [] 2 (.p (blP ((zU111 c0).any fun x => decide ((s : Int) = x)))) [], FC Tryz.prog 76 [(.p (cupP c0)), (.p (intP (s : Int)))] [] 2 (.tup [(.p (rowsP (wonM c0 k100))), (.p (intP 0))]) [], FC Tryz.prog 75 [(.p (cupP c0)), (.p (intP (s : Int)))] [] 2 (.tup [(.p (rowsP (wonM c0 s))), (.p (intP 0))]) [], _]) (by kernel_rfl) (gc h15 (gc hl14.code (gc h13 (gc (by first | decide | simp) (gc (by first | decide | simp) (gc (FV.fc (shows_ok c0 s (wonM c0 k100) h1 h2 h12) rfl) (gc (by first | decide | simp) (gc (q_notF h11) (gc (by first | decide | simp) (gc (by first | decide | simp) (gc (by first | decide | simp) (gc (FV.fc (shows_ok c0 s (wonM c0 s) h1 h2 h10) rfl) (gc (by first | decide | simp) (gc h8 (gc h9 (gc h8 (gc h9 (gc h9 (gc h9 (gc h9 (gc h8 (gc (FV.fc (hasV_ok (zU110 c0) (s : Int) h7) rfl) (gc h8 (gc h8 (gc h8 (gc (q_notF h6) (gc (q_notF h6) (gc (FV.fc (hasV_ok (zU110 c0) (s : Int) h7) rfl) (gc (q_notF h6) (gc (q_notF h6) (gc (q_notF h6) (gc (q_notF h6) (gc (q_notF h6) (gc (FV.fc (hasV_ok (zU111 c0) (s : Int) h5) rfl) (gc (h4 2) (gc (FV.fc (show_yes c0 s h1 h2 h3) rfl) (gc (q_lt h0) gn)))))))))))))))))))))))))))))))))))))
theorem dcd_L0_p13 {g : List Int} {c0 : Cup} {s : Nat} {mx tt : Int} {t'100 : Nat} {mz'101 tz'102 : Int} {s' : Nat} (h0 : (s : Int) < c0.sk) (h1 : KL.Valid c0) (h2 : ((s : Nat) : Int) < c0.sk) (h3 : canM c0 s = true) (h4 : ∀ nb : Nat, FC Tryz.prog 76 [(.p (cupP c0)), (.p (intP (s : Int)))] [] nb (.tup [(.p nilS), (.p (intP 6))]) []) (h5 : small (whoM (canM c0) c0.sk.toNat).length) (h6 : (((0 : Int) == (0 : Int)) == ((whoM (canM c0) c0.sk.toNat).any fun x => decide ((s : Int) = x))) = true) (h7 : small (whoM (sureM c0) c0.sk.toNat).length) (h8 : (((6 : Int) == (0 : Int)) == ((whoM (sureM c0) c0.sk.toNat).any fun x => decide ((s : Int) = x))) = false) (h9 : ((whoM (sureM c0) c0.sk.toNat).any fun x => decide ((s : Int) = x)) = true) (h10 : ((whoM (canM c0) c0.sk.toNat).any fun x => decide ((s : Int) = x)) = true) (h11 : FurN c0 (wonM c0 s)) (h12 : (decide (rankM (withC c0 (wonM c0 s)) s = 1)) = true) (hl13 : LoopOK Tryz.prog 0 zU11c1 (dcd_S1 g c0 s 0 mx tt) (.exit 2) (dcd_S1 g c0 s t'100 mz'101 tz'102)) (h14 : inR (((s + 1) : Nat) : Int)) (es' : s' = (s + 1)) : CodeOK Tryz.prog 0 zU11c0 (dcd_S0 g c0 s mx tt) .normal (dcd_S0 g c0 s' mz'101 tz'102) := by
  subst es'
  exact CodeOK.fin (g := ⟨(rng [(0, 5), (10, 12), (25, 27), (54, 101), (215, 2)]), [0, 1], [], []⟩) (o := [.b true, .c (.tup [(.p (rowsP (wonM c0 s))), (.p (intP 0))]) [], .c (.tup [(.p nilS), (.p (intP 6))]) [], .c (.p (blP ((zU111 c0).any fun x => decide ((s : Int) = x)))) [], .b false, .b false, .b false, .b false, .b false, .c (.p (blP ((zU110 c0).any fun x => decide ((s : Int) = x)))) [], .b false, .b false, .b false, .b false, .b false, .c (.p (blP ((zU110 c0).any fun x => decide ((s : Int) = x)))) [], .b false, .b true, .b true, .b true, .c (.p (blP ((zU111 c0).any fun x => decide ((s : Int) = x)))) [], .b true, .b false, .b true, .b false, .b false, .b true, .c (.tup [(.p (blP (decide (rankM (withC c0 (wonM c0 s)) s = 1)))), (.p (intP 0))]) [], .b false, .b false, .b false, .b false, .b false, .k 3 ⟨(rng [(0, 5), (10, 1), (12, 10), (25, 27), (56, 66), (123, 31), (215, 2)]), [0, 1], [], []⟩ (.exit 2) (dcd_S1 g c0 s t'100 mz'101 tz'102)]) (l := [_, _, ((6 : Int) == (0 : Int)) = false, _, ((0 : Int) != (0 : Int)) = false, ((0 : Int) != (0 : Int)) = false, ((0 : Int) != (0 : Int)) = false, FC Tryz.prog 72 [(.p (cupP c0)), (.p (intP (s : Int))), (.p (rowsP (wonM c0 s)))] [] 2 (.tup [(.p (blP (decide (rankM (withC c0 (wonM c0 s)) s = 1)))), (.p (intP 0))]) [], ((0 : Int) == (0 : Int)) = true, _, _, _, _, _, FC Tryz.prog 41 [(.p (intsP (zU111 c0))), (.p (intP (s : Int)))] [] 2 (.p (blP ((zU111 c0).any fun x => decide ((s : Int) = x)))) [], _, _, _, _, FC Tryz.prog 41 [(.p (intsP (zU110 c0))), (.p (intP (s : Int)))] [] 2 (.p (blP ((zU110 c0).any fun x => decide ((s : Int) = x)))) [], _, _, _, _, _, FC Tryz.prog 41 [(.p (intsP (zU110 c0))), (.p (intP (s : Int)))] [] 2 (.p (blP ((zU110 c0).any fun x => decide ((s : Int) = x)))) [], _, _, _, _, _, FC Tryz.prog 41 [(.p (intsP (zU111 c0))), (.p (intP (s : Int)))] [] 2 (.p (blP ((zU111 c0).any fun x => decide ((s : Int) = x)))) [], FC Tryz.prog 76 [(.p (cupP c0)), (.p (intP (s : Int)))] [] 2 (.tup [(.p nilS), (.p (intP 6))]) [], FC Tryz.prog 75 [(.p (cupP c0)), (.p (intP (s : Int)))] [] 2 (.tup [(.p (rowsP (wonM c0 s))), (.p (intP 0))]) [], _]) (by kernel_rfl) (gc h14 (gc hl13.code (gc (by first | decide | simp) (gc (q_notF h12) (gc (by first | decide | simp) (gc (by first | decide | simp) (gc (by first | decide | simp) (gc (FV.fc (shows_ok c0 s (wonM c0 s) h1 h2 h11) rfl) (gc (by first | decide | simp) (gc (q_notF h10) (gc h8 (gc h9 (gc h8 (gc h9 (gc (FV.fc (hasV_ok (zU111 c0) (s : Int) h5) rfl) (gc h9 (gc h9 (gc h9 (gc h8 (gc (FV.fc (hasV_ok (zU110 c0) (s : Int) h7) rfl) (gc h8 (gc h8 (gc h8 (gc (q_notF h6) (gc (q_notF h6) (gc (FV.fc (hasV_ok (zU110 c0) (s : Int) h7) rfl) (gc (q_notF h6) (gc (q_notF h6) (gc (q_notF h6) (gc (q_notF h6) (gc (q_notF h6) (gc (FV.fc (hasV_ok (zU111 c0) (s : Int) h5) rfl) (gc (h4 2) (gc (FV.fc (show_yes c0 s h1 h2 h3) rfl) (gc (q_lt h0) gn)))))))))))))))))))))))))))))))))))
theorem dcd_L0_p22 {g : List Int} {c0 : Cup} {s : Nat} {mx tt : Int} {k100 t'101 : Nat} {mz'102 tz'103 : Int} {s' : Nat} (h0 : (s : Int) < c0.sk) (h1 : KL.Valid c0) (h2 : ((s : Nat) : Int) < c0.sk) (h3 : canM c0 s = false) (h4 : ∀ nb : Nat, FC Tryz.prog 76 [(.p (cupP c0)), (.p (intP (s : Int)))] [] nb (.tup [(.p (rowsP (wonM c0 k100))), (.p (intP 0))]) []) (h5 : small (whoM (canM c0) c0.sk.toNat).length) (h6 : (((6 : Int) == (0 : Int)) == ((whoM (canM c0) c0.sk.toNat).any fun x => decide ((s : Int) = x))) = true) (h7 : small (whoM (sureM c0) c0.sk.toNat).length) (h8 : (((0 : Int) == (0 : Int)) == ((whoM (sureM c0) c0.sk.toNat).any fun x => decide ((s : Int) = x))) = false) (h9 : ((whoM (sureM c0) c0.sk.toNat).any fun x => decide ((s : Int) = x)) = false) (h10 : FurN c0 (wonM c0 k100)) (h11 : (decide (rankM (withC c0 (wonM c0 k100)) s = 1)) = false) (hl12 : LoopOK Tryz.prog 0 zU11c1 (dcd_S1 g c0 s 0 mx tt) (.exit 2) (dcd_S1 g c0 s t'101 mz'102 tz'103)) (h13 : inR (((s + 1) : Nat) : Int)) (es' : s' = (s + 1)) : CodeOK Tryz.prog 0 zU11c0 (dcd_S0 g c0 s mx tt) .normal (dcd_S0 g c0 s' mz'102 tz'103) := by
  subst es'
  exact CodeOK.fin (g := ⟨(rng [(0, 5), (10, 12), (25, 27), (54, 101), (215, 2)]), [0, 1], [], []⟩) (o := [.b true, .c (.tup [(.p nilS), (.p (intP 6))]) [], .c (.tup [(.p (rowsP (wonM c0 k100))), (.p (intP 0))]) [], .c (.p (blP ((zU111 c0).any fun x => decide ((s : Int) = x)))) [], .b false, .b false, .b false, .b false, .b false, .c (.p (blP ((zU110 c0).any fun x => decide ((s : Int) = x)))) [], .b false, .b false, .b false, .b false, .b false, .c (.p (blP ((zU110 c0).any fun x => decide ((s : Int) = x)))) [], .b false, .b false, .b false, .b false, .b false, .b false, .b false, .b false, .b false, .b true, .c (.tup [(.p (blP (decide (rankM (withC c0 (wonM c0 k100)) s = 1)))), (.p (intP 0))]) [], .b false, .b false, .b false, .k 3 ⟨(rng [(0, 5), (10, 1), (12, 10), (25, 27), (56, 66), (123, 31), (215, 2)]), [0, 1], [], []⟩ (.exit 2) (dcd_S1 g c0 s t'101 mz'102 tz'103)]) (l := [_, _, _, ((0 : Int) != (0 : Int)) = false, ((0 : Int) != (0 : Int)) = false, FC Tryz.prog 72 [(.p (cupP c0)), (.p (intP (s : Int))), (.p (rowsP (wonM c0 k100)))] [] 2 (.tup [(.p (blP (decide (rankM (withC c0 (wonM c0 k100)) s = 1)))), (.p (intP 0))]) [], ((0 : Int) == (0 : Int)) = true, ((6 : Int) == (0 : Int)) = false, _, _, _, _, _, _, _, _, FC Tryz.prog 41 [(.p (intsP (zU110 c0))), (.p (intP (s : Int)))] [] 2 (.p (blP ((zU110 c0).any fun x => decide ((s : Int) = x)))) [], _, _, _, _, _, FC Tryz.prog 41 [(.p (intsP (zU110 c0))), (.p (intP (s : Int)))] [] 2 (.p (blP ((zU110 c0).any fun x => decide ((s : Int) = x)))) [], _, _, _, _, _, FC Tryz.prog 41 [(.p (intsP (zU111 c0))), (.p (intP (s : Int)))] [] 2 (.p (blP ((zU111 c0).any fun x => decide ((s : Int) = x)))) [], FC Tryz.prog 76 [(.p (cupP c0)), (.p (intP (s : Int)))] [] 2 (.tup [(.p (rowsP (wonM c0 k100))), (.p (intP 0))]) [], FC Tryz.prog 75 [(.p (cupP c0)), (.p (intP (s : Int)))] [] 2 (.tup [(.p nilS), (.p (intP 6))]) [], _]) (by kernel_rfl) (gc h13 (gc hl12.code (gc h11 (gc (by first | decide | simp) (gc (by first | decide | simp) (gc (FV.fc (shows_ok c0 s (wonM c0 k100) h1 h2 h10) rfl) (gc (by first | decide | simp) (gc (by first | decide | simp) (gc h8 (gc h9 (gc h8 (gc h9 (gc h9 (gc h9 (gc h9 (gc h8 (gc (FV.fc (hasV_ok (zU110 c0) (s : Int) h7) rfl) (gc h8 (gc h8 (gc h8 (gc (q_notF h6) (gc (q_notF h6) (gc (FV.fc (hasV_ok (zU110 c0) (s : Int) h7) rfl) (gc (q_notF h6) (gc (q_notF h6) (gc (q_notF h6) (gc (q_notF h6) (gc (q_notF h6) (gc (FV.fc (hasV_ok (zU111 c0) (s : Int) h5) rfl) (gc (h4 2) (gc (FV.fc (show_no c0 s h1 h2 h3) rfl) (gc (q_lt h0) gn))))))))))))))))))))))))))))))))
theorem dcd_L0_p28 {g : List Int} {c0 : Cup} {s : Nat} {mx tt : Int} (h0 : c0.sk ≤ (s : Int)) : CodeOK Tryz.prog 0 zU11c0 (dcd_S0 g c0 s mx tt) (.exit 0) (dcd_S0 g c0 s mx tt) := by
  exact CodeOK.fin (g := ⟨(rng [(0, 5), (10, 12), (25, 27), (54, 101), (215, 2)]), [0, 1], [], []⟩) (o := [.b false]) (l := [_]) (by kernel_rfl) (gc (q_ltF h0) gn)
theorem dcd_L1_p3 {g : List Int} {c0 : Cup} {s t : Nat} {mz tz : Int} {r200 : List (List Int)} {m201 t202 : Int} {t' : Nat} (h0 : (t : Int) < (3 : Int)) (h1 : KL.Valid c0) (h2 : 0 ≤ mz ∧ mz ≤ 100000) (h3 : leftN c0 g mz tz = (r200, m201, t202)) (h4 : ((s : Nat) : Int) < c0.sk) (h5 : FurN c0 r200) (h6 : (decide (rankM (withC c0 r200) s = 1)) = true) (h7 : small (whoM (canM c0) c0.sk.toNat).length) (h8 : ((whoM (canM c0) c0.sk.toNat).any fun x => decide ((s : Int) = x)) = true) (h9 : inR (((t + 1) : Nat) : Int)) (et' : t' = (t + 1)) : CodeOK Tryz.prog 0 zU11c1 (dcd_S1 g c0 s t mz tz) .normal (dcd_S1 g c0 s t' m201 t202) := by
  subst et'
  exact CodeOK.fin (g := ⟨(rng [(0, 5), (10, 1), (12, 10), (25, 27), (56, 66), (123, 31), (215, 2)]), [0, 1], [], []⟩) (o := [.b true, .c (.p (rowsP r200)) [(1, (deckO g m201 t202))], .c (.tup [(.p (blP (decide (rankM (withC c0 r200) s = 1)))), (.p (intP 0))]) [], .b false, .b false, .b true, .b true, .b true, .c (.p (blP ((zU111 c0).any fun x => decide ((s : Int) = x)))) [], .b true, .b false, .b true, .b false, .b false, .b false, .b false, .b false, .b false, .b false, .b false, .b false, .b false]) (l := [_, _, _, _, _, _, _, _, _, _, ((0 : Int) != (0 : Int)) = false, _, ((0 : Int) != (0 : Int)) = false, _, FC Tryz.prog 41 [(.p (intsP (zU111 c0))), (.p (intP (s : Int)))] [] 2 (.p (blP ((zU111 c0).any fun x => decide ((s : Int) = x)))) [], _, _, _, ((0 : Int) != (0 : Int)) = false, ((0 : Int) != (0 : Int)) = false, FC Tryz.prog 72 [(.p (cupP c0)), (.p (intP (s : Int))), (.p (rowsP r200))] [] 6 (.tup [(.p (blP (decide (rankM (withC c0 r200) s = 1)))), (.p (intP 0))]) [], FC Tryz.prog 66 [(.ptr 1 0), (.p (cupP c0))] [(1, (deckO g mz tz))] 2 (.p (rowsP r200)) [(1, (deckO g m201 t202))], _]) (by kernel_rfl) (gc h9 (gc (q_notF h8) (gc (q_notF h6) (gc (q_notF h8) (gc (q_notF h6) (gc (q_notF h6) (gc (q_notF h6) (gc (q_notF h8) (gc (q_notF h8) (gc (q_notF h8) (gc (by first | decide | simp) (gc h6 (gc (by first | decide | simp) (gc h6 (gc (FV.fc (hasV_ok (zU111 c0) (s : Int) h7) rfl) (gc h6 (gc h6 (gc h6 (gc (by first | decide | simp) (gc (by first | decide | simp) (gc (FV.fc (shows_ok c0 s r200 h1 h4 h5) rfl) (gc (FMM.fc (ids := [1]) (leftN_eq c0 g mz tz h1 h2 h3) (by kernel_rfl)) (gc (q_lt h0) gn)))))))))))))))))))))))
theorem dcd_L1_p5 {g : List Int} {c0 : Cup} {s t : Nat} {mz tz : Int} {r200 : List (List Int)} {m201 t202 : Int} {t' : Nat} (h0 : (t : Int) < (3 : Int)) (h1 : KL.Valid c0) (h2 : 0 ≤ mz ∧ mz ≤ 100000) (h3 : leftN c0 g mz tz = (r200, m201, t202)) (h4 : ((s : Nat) : Int) < c0.sk) (h5 : FurN c0 r200) (h6 : (decide (rankM (withC c0 r200) s = 1)) = false) (h7 : small (whoM (sureM c0) c0.sk.toNat).length) (h8 : ((whoM (sureM c0) c0.sk.toNat).any fun x => decide ((s : Int) = x)) = false) (h9 : inR (((t + 1) : Nat) : Int)) (et' : t' = (t + 1)) : CodeOK Tryz.prog 0 zU11c1 (dcd_S1 g c0 s t mz tz) .normal (dcd_S1 g c0 s t' m201 t202) := by
  subst et'
  exact CodeOK.fin (g := ⟨(rng [(0, 5), (10, 1), (12, 10), (25, 27), (56, 66), (123, 31), (215, 2)]), [0, 1], [], []⟩) (o := [.b true, .c (.p (rowsP r200)) [(1, (deckO g m201 t202))], .c (.tup [(.p (blP (decide (rankM (withC c0 r200) s = 1)))), (.p (intP 0))]) [], .b false, .b false, .b false, .b false, .b false, .b false, .b false, .b false, .b false, .b true, .b true, .b true, .c (.p (blP ((zU110 c0).any fun x => decide ((s : Int) = x)))) [], .b true, .b false]) (l := [_, _, _, FC Tryz.prog 41 [(.p (intsP (zU110 c0))), (.p (intP (s : Int)))] [] 2 (.p (blP ((zU110 c0).any fun x => decide ((s : Int) = x)))) [], _, _, _, ((0 : Int) != (0 : Int)) = false, _, ((0 : Int) != (0 : Int)) = false, _, _, _, _, ((0 : Int) != (0 : Int)) = false, ((0 : Int) != (0 : Int)) = false, FC Tryz.prog 72 [(.p (cupP c0)), (.p (intP (s : Int))), (.p (rowsP r200))] [] 6 (.tup [(.p (blP (decide (rankM (withC c0 r200) s = 1)))), (.p (intP 0))]) [], FC Tryz.prog 66 [(.ptr 1 0), (.p (cupP c0))] [(1, (deckO g mz tz))] 2 (.p (rowsP r200)) [(1, (deckO g m201 t202))], _]) (by kernel_rfl) (gc h9 (gc h8 (gc (q_not h6) (gc (FV.fc (hasV_ok (zU110 c0) (s : Int) h7) rfl) (gc (q_not h6) (gc (q_not h6) (gc (q_not h6) (gc (by first | decide | simp) (gc h6 (gc (by first | decide | simp) (gc h6 (gc h6 (gc h6 (gc h6 (gc (by first | decide | simp) (gc (by first | decide | simp) (gc (FV.fc (shows_ok c0 s r200 h1 h4 h5) rfl) (gc (FMM.fc (ids := [1]) (leftN_eq c0 g mz tz h1 h2 h3) (by kernel_rfl)) (gc (q_lt h0) gn)))))))))))))))))))
theorem dcd_L1_p7 {g : List Int} {c0 : Cup} {s t : Nat} {mz tz : Int} (h0 : (3 : Int) ≤ (t : Int)) : CodeOK Tryz.prog 0 zU11c1 (dcd_S1 g c0 s t mz tz) (.exit 2) (dcd_S1 g c0 s t mz tz) := by
  exact CodeOK.fin (g := ⟨(rng [(0, 5), (10, 1), (12, 10), (25, 27), (56, 66), (123, 31), (215, 2)]), [0, 1], [], []⟩) (o := [.b false]) (l := [_]) (by kernel_rfl) (gc (q_ltF h0) gn)
theorem dcd_tries {g : List Int} {c : Cup} (hV : KL.Valid c) {s : Nat} (hs : (s : Int) < c.sk) : ∀ (k t : Nat) (mx tt : Int), t + k = 3 → 0 ≤ mx → mx + 2000 * k ≤ 100000 →
    ∃ (mx' tt' : Int), LoopOK Tryz.prog 0 zU11c1 (dcd_S1 g c s t mx tt) (.exit 2) (dcd_S1 g c s 3 mx' tt') ∧ mx ≤ mx' ∧ mx' ≤ mx + 2000 * k
  | 0, t, mx, tt, hk, h0, h1 => by
    obtain rfl : t = 3 := by omega
    exact ⟨mx, tt, .exit (dcd_L1_p7 (by omega)) (by simp), by omega, by omega⟩
  | k + 1, t, mx, tt, hk, h0, h1 => by
    have s1 := hV.sk1
    have s2 := hV.sk2
    have hsp := (leftN_spec c g mx tt hV ⟨h0, by omega⟩).2
    obtain ⟨⟨r, m1, t1⟩, e⟩ : ∃ q, q = leftN c g mx tt := ⟨_, rfl⟩
    rw [← e] at hsp
    have hf := furN_left hV hsp
    have b1 := hsp.left.n1
    have b2 := hsp.left.n2
    dsimp only at hf b1 b2
    have w1 := who_mem (p := canM c) (n := c.sk.toNat) (s := s) (by omega)
    have w2 := who_mem (p := sureM c) (n := c.sk.toNat) (s := s) (by omega)
    have q1 : small (whoM (canM c) c.sk.toNat).length := who_small _ (by omega)
    have q2 : small (whoM (sureM c) c.sk.toNat).length := who_small _ (by omega)
    have c1 : CodeOK Tryz.prog 0 zU11c1 (dcd_S1 g c s t mx tt) .normal (dcd_S1 g c s (t + 1) m1 t1) := by
      by_cases hr : rankM (withC c r) s = 1
      · exact dcd_L1_p3 (by omega) hV ⟨h0, by omega⟩ e.symm hs hf (decide_eq_true hr) q1 (by rw [w1]; exact first_can hV hs hf.fur hr) (inR_nat (by omega)) rfl
      · exact dcd_L1_p5 (by omega) hV ⟨h0, by omega⟩ e.symm hs hf (decide_eq_false hr) q2 (by
          rw [w2]
          cases e2 : sureM c s with
          | false => rfl
          | true => exact absurd (sure_first hV hs hf.fur e2) hr) (inR_nat (by omega)) rfl
    obtain ⟨m2, t2, L, b3, b4⟩ := dcd_tries hV hs (g := g) k (t + 1) m1 t1 (by omega) (by omega) (by omega)
    exact ⟨m2, t2, .step c1 L, by omega, by omega⟩
theorem dcd_all {g : List Int} {c : Cup} (hV : KL.Valid c) : ∀ (k s : Nat) (mx tt : Int), s + k = c.sk.toNat → 0 ≤ mx → mx + 6000 * k ≤ 100000 →
    ∃ (mx' tt' : Int), LoopOK Tryz.prog 0 zU11c0 (dcd_S0 g c s mx tt) (.exit 0) (dcd_S0 g c c.sk.toNat mx' tt')
  | 0, s, mx, tt, hk, h0, h1 => by
    obtain rfl : s = c.sk.toNat := by omega
    exact ⟨mx, tt, .exit (dcd_L0_p28 (by omega)) (by simp)⟩
  | k + 1, s, mx, tt, hk, h0, h1 => by
    have s1 := hV.sk1
    have s2 := hV.sk2
    have hs : (s : Int) < c.sk := by omega
    have w1 := who_mem (p := canM c) (n := c.sk.toNat) (s := s) (by omega)
    have w2 := who_mem (p := sureM c) (n := c.sk.toNat) (s := s) (by omega)
    have q1 : small (whoM (canM c) c.sk.toNat).length := who_small _ (by omega)
    have q2 : small (whoM (sureM c) c.sk.toNat).length := who_small _ (by omega)
    obtain ⟨m1, t1, L1, b1, b2⟩ := dcd_tries hV hs (g := g) 3 0 mx tt (by omega) h0 (by omega)
    have c1 : CodeOK Tryz.prog 0 zU11c0 (dcd_S0 g c s mx tt) .normal (dcd_S0 g c (s + 1) m1 t1) := by
      cases ec : canM c s with
      | true =>
        have hw := furN_won hV hs
        cases es : sureM c s with
        | false =>
          obtain ⟨j, j1, j2, j3⟩ := against_yes c s hV hs es
          have hj := furN_won hV (show (j : Int) < c.sk by omega)
          have hr : ¬ rankM (withC c (wonM c j)) s = 1 := by have := (passes_iff.1 j2).2; omega
          exact dcd_L0_p8 (by omega) hV hs ec j3 q1 (by rw [w1, ec]; rfl) q2 (by rw [w2, es]; rfl) (by rw [w2, es]) hw (decide_eq_true (canM_iff.1 ec)) hj (decide_eq_false hr) L1 (inR_nat (by omega)) rfl
        | true =>
          exact dcd_L0_p13 (by omega) hV hs ec (against_no c s hV hs es) q1 (by rw [w1, ec]; rfl) q2 (by rw [w2, es]; rfl) (by rw [w2, es]) (by rw [w1, ec]) hw (decide_eq_true (canM_iff.1 ec)) L1 (inR_nat (by omega)) rfl
      | false =>
        have es : sureM c s = false := by
          cases e2 : sureM c s with
          | false => rfl
          | true => rw [sure_can hV hs e2] at ec; cases ec
        obtain ⟨j, j1, j2, j3⟩ := against_yes c s hV hs es
        have hj := furN_won hV (show (j : Int) < c.sk by omega)
        have hr : ¬ rankM (withC c (wonM c j)) s = 1 := by have := (passes_iff.1 j2).2; omega
        exact dcd_L0_p22 (by omega) hV hs ec j3 q1 (by rw [w1, ec]; rfl) q2 (by rw [w2, es]; rfl) (by rw [w2, es]) hj (decide_eq_false hr) L1 (inR_nat (by omega)) rfl
    obtain ⟨m2, t2, L⟩ := dcd_all hV (g := g) k (s + 1) m1 t1 (by omega) (by omega) (by omega)
    exact ⟨m2, t2, .step c1 L⟩
theorem decided_holds (l g : List Int) {base : Nat} : FV Tryz.prog 15 [.p (.sl l.length (l.map byteP)), .p (.sl g.length (g.map byteP))] base (.p (blP true)) [] := by
  have hsp := madeM_spec 7 8 l 0 17 (by omega) (by omega) (by omega)
  obtain ⟨⟨c, m, t⟩, e⟩ : ∃ q, q = madeM 7 8 l 0 17 := ⟨_, rfl⟩
  rw [← e] at hsp
  obtain ⟨_, hV, _, hs7, _⟩ := hsp
  dsimp only at hV hs7
  have s1 := hV.sk1
  have d1 := hV.dn
  have r2 := hV.ra2
  obtain ⟨m2, t2, L⟩ := dcd_all hV (g := g) c.sk.toNat 0 0 17 (by omega) (by omega) (by omega)
  have hne : (((whoM (canM c) c.sk.toNat).length : Nat) : Int) ≠ 0 := by
    obtain ⟨j, j1, j2⟩ := some_can hV
    have hm : (j : Int) ∈ whoM (canM c) c.sk.toNat := List.mem_map.2 ⟨j, List.mem_filter.2 ⟨List.mem_range.2 j1, j2⟩, rfl⟩
    have := List.length_pos_of_mem hm
    omega
  rcases dec_cases hV with ⟨h6, h⟩ | ⟨n, s, h1, h2, h3, h4, h5⟩
  · by_cases h9 : (whoM (sureM c) c.sk.toNat).length = 1
    · have h10 := h.resolve_left (fun q => q h9)
      exact dcd_p2 ⟨by omega, by omega⟩ ⟨by omega, by omega⟩ ⟨by omega, by omega⟩ e.symm hV hne L (n6 := (decM c).1) (s7 := (decM c).2.1) (e8 := (decM c).2.2) rfl h6 (by omega) (by omega)
    · exact dcd_p1 ⟨by omega, by omega⟩ ⟨by omega, by omega⟩ ⟨by omega, by omega⟩ e.symm hV hne L (n6 := (decM c).1) (s7 := (decM c).2.1) (e8 := (decM c).2.2) rfl h6 (by omega)
  · have l3 : (whoM (sureM c) c.sk.toNat).length ≤ 100000 := by rw [h3]; simp
    have l4 : (whoM (canM c) c.sk.toNat).length ≤ 100000 := by rw [h4]; simp
    by_cases h0 : n = 0
    · exact dcd_p9 ⟨by omega, by omega⟩ ⟨by omega, by omega⟩ ⟨by omega, by omega⟩ e.symm hV hne L h1 (by omega) rfl (by omega) (by omega) l3 (decide_eq_true h3) l4 (decide_eq_true h4) (by omega)
    · have hp := h5 (by omega)
      have en : ((n : Int) - 1).toNat = n - 1 := by omega
      exact dcd_p10 (l9 := c.done.take (n - 1)) (n10 := (decM (earlyC c (n - 1))).1) (s11 := (decM (earlyC c (n - 1))).2.1) (e12 := (decM (earlyC c (n - 1))).2.2) ⟨by omega, by omega⟩ ⟨by omega, by omega⟩ ⟨by omega, by omega⟩ e.symm hV hne L h1 (by omega) rfl (by omega) (by omega) l3 (decide_eq_true h3) l4 (decide_eq_true h4) (by omega) hV.small (by unfold inR; omega) ⟨by omega, by omega, by omega, by simp⟩ (by rw [en, List.length_take]; omega) (by rw [en, Nat.mul_one, List.map_take]) (KL.valid_take hV (n - 1)) rfl hp
end
end KV
end Go.Proofs
