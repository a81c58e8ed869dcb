/- Parts of the proof of JScores: laws of walks, contracts of functions, plain models. No condition. -/
import Derived.RangeFuncLeaves
import Derived.OwnWalkIn
import Derived.TacticsInMore
import Derived.Test.YtgehgmllhmfbpaaGreatPJScoresC
set_option linter.unusedVariables false
set_option linter.unusedSimpArgs false
set_option maxRecDepth 100000
namespace Go.Proofs
namespace KV
section
open KL
noncomputable abbrev zK3c0 : Code := sub (cd Tryz.f110) [1, 1, 0, 1, 0, 0]
noncomputable abbrev zK3c1 : Code := sub (cd Tryz.f115) [1, 1, 1, 1, 1, 1, 0, 1, 0, 0]
def with_S0 (c : Cup) (fs : List (List Int)) (i : Nat) (Ln : Nat) (Lc : List PV) : St := ⟨fr 56 [(4, (.ptr 0 0)), (5, (.ptr 1 0)), (40, (.own 3)), (41, (.p (intP (((c.done.length + fs.length) : Nat) : Int)))), (42, (.p (intP (i : Int))))], [some (.box 120 [(.p (intP 0)), (.p (intP 0)), (.p (intP 0)), (.p nilS), (.p nilS)]), some (.box 25 [(.p (intP c.sk)), (.p (intP c.ra)), (.p (intP c.be)), (.own 2), (.own 3)]), some (.row 3 c.pts.length (c.pts.map intP)), some (.row 22 Ln Lc)]⟩
theorem with_p0 {c : Cup} {fs : List (List Int)} {i'0 : Nat} {L'1 : List (List Int)} (h0 : c.pts.length ≤ 1000) (h1 : inR (((c.done.length + fs.length) : Nat) : Int)) (h2 : 0 ≤ (c.done.length : Int) ∧ (c.done.length : Int) ≤ (((c.done.length + fs.length) : Nat) : Int) ∧ (((c.done.length + fs.length) : Nat) : Int) ≤ 1000000) (h3 : (fs.map intsP).length = fs.length * 1 ∧ c.done.length + fs.length ≤ 1000000) (hl4 : LoopOK Tryz.prog 0 zK3c1 (with_S0 c fs 0 (c.done.length + fs.length) ((c.done.map intsP) ++ (fs.map intsP))) (.exit 0) (with_S0 c fs i'0 L'1.length (L'1.map intsP))) {base : Nat} : FV Tryz.prog 115 [(.p (cupP c)), (.p (rowsP fs))] base (.p (.agg [(intP c.sk), (intP c.ra), (intP c.be), (intsP c.pts), (rowsP L'1)])) [] := by
  exact FV.fin Tryz.func115 rfl (o := [.c (.own 3) [(3, (.row 3 c.pts.length (c.pts.map intP)))], .k 10 ⟨(rng [(0, 4), (6, 34), (43, 11)]), [1, 2, 3, 5], [], []⟩ (.exit 0) (with_S0 c fs i'0 L'1.length (L'1.map intsP))]) (l := [_, _, (c.done.map intsP).length = c.done.length ∧ c.done.length = c.done.length, _, _, FC Tryz.prog 150 [(.p (intsP c.pts))] [] 3 (.own 3) [(3, (.row 3 c.pts.length (c.pts.map intP)))]]) (by kernel_rfl) (gc hl4.code (gc h3 (gc (by simp) (gc h2 (gc h1 (gc (FV.fc (cloneI_ok c.pts h0) rfl) gn))))))
theorem with_L0_p0 {c : Cup} {fs : List (List Int)} {i : Nat} {L : List (List Int)} {x100 : List Int} {i' : Nat} {L' : List (List Int)} (h0 : (i : Int) < (((c.done.length + fs.length) : Nat) : Int)) (h1 : L[i]? = some x100) (h2 : x100.length ≤ 1000) (h3 : (i * 1) < (L.map intsP).length) (h4 : inR (((i + 1) : Nat) : Int)) (ei' : i' = (i + 1)) (eL'n : L'.length = L.length) (eL'c : L'.map intsP = ((L.map intsP).set (i * 1) (intsP x100))) : CodeOK Tryz.prog 0 zK3c1 (with_S0 c fs i L.length (L.map intsP)) .normal (with_S0 c fs i' L'.length (L'.map intsP)) := by
  subst ei'
  have raw : CodeOK Tryz.prog 0 zK3c1 (with_S0 c fs i L.length (L.map intsP)) .normal (with_S0 c fs (i + 1) L.length ((L.map intsP).set (i * 1) (intsP x100))) := CodeOK.fin (g := ⟨(rng [(0, 4), (6, 34), (43, 11)]), [0, 1, 2, 3], [], []⟩) (o := [.b true, .x (intsP x100), .c (.own 4) [(4, (.row 3 x100.length (x100.map intP)))]]) (l := [_, _, _, FC Tryz.prog 150 [(.p (intsP x100))] [] 4 (.own 4) [(4, (.row 3 x100.length (x100.map intP)))], (L.map intsP)[(i * 1)]? = some (intsP x100), _, _]) (by kernel_rfl) (gc h4 (gc h3 (gc (ix_own (i := (i : Int)) (Int.natCast_nonneg _) h1) (gc (FV.fc (cloneI_ok x100 h2) rfl) (gc (at_map (i := i) h1) (gc (ix_own (i := (i : Int)) (Int.natCast_nonneg _) h1) (gc (q_lt h0) gn)))))))
  exact raw.cast (by rw [eL'n, eL'c])
theorem with_L0_p1 {c : Cup} {fs : List (List Int)} {i : Nat} {L : List (List Int)} (h0 : (((c.done.length + fs.length) : Nat) : Int) ≤ (i : Int)) : CodeOK Tryz.prog 0 zK3c1 (with_S0 c fs i L.length (L.map intsP)) (.exit 0) (with_S0 c fs i L.length (L.map intsP)) := by
  exact CodeOK.fin (g := ⟨(rng [(0, 4), (6, 34), (43, 11)]), [0, 1, 2, 3], [], []⟩) (o := [.b false]) (l := [_]) (by kernel_rfl) (gc (q_ltF h0) gn)
theorem with_ok (c : Cup) (fs : List (List Int)) (hpl : c.pts.length ≤ 1000) (hdl : c.done.length + fs.length ≤ 1000) (hrl : ∀ r ∈ c.done ++ fs, r.length ≤ 1000) {base : Nat} :
    FV Tryz.prog 115 [.p (cupP c), .p (rowsP fs)] base (.p (cupP (withC c fs))) [] := by
  have h := LoopOK.range (P := Tryz.prog) (k := 0) (b := zK3c1) (e := .exit 0) (fun i (_ : Unit) => with_S0 c fs i (c.done ++ fs).length ((c.done ++ fs).map intsP)) (fun _ => with_S0 c fs (c.done ++ fs).length (c.done ++ fs).length ((c.done ++ fs).map intsP)) (fun a _ => a) (fun _ _ => True) (by simp) (c.done ++ fs) (a0 := ()) trivial
    (fun i x _ hx _ => ⟨trivial, with_L0_p0 (by have := lt_of_at hx; rw [List.length_append] at this; omega) hx (hrl x (List.mem_of_getElem? hx)) (by have := lt_of_at hx; simpa using this) (inR_nat (by have := lt_of_at hx; rw [List.length_append] at this; omega)) rfl rfl (by
      apply List.ext_getElem?
      intro j
      rw [List.getElem?_set, Nat.mul_one]
      split
      · rename_i e; subst e
        have := lt_of_at hx
        rw [List.getElem?_map, hx, if_pos (by simpa using this)]; rfl
      · rfl)⟩)
    (fun _ _ => with_L0_p1 (L := c.done ++ fs) (by rw [List.length_append]; omega))
  refine with_p0 (L'1 := c.done ++ fs) (i'0 := (c.done ++ fs).length) hpl (inR_nat (by omega)) (by omega) (by simp; omega) ?_
  simpa using h
theorem asked_p0 {c : Cup} {r0 : Int} (h0 : KL.Small c) (er0 : r0 = (checkP c)) {base : Nat} : FV Tryz.prog 88 [(.p (cupP c))] base (.tup [(.p (cupP c)), (.p (intP r0))]) [] := by
  subst er0
  exact FV.fin Tryz.func88 rfl (o := [.c (.p (intP (checkP c))) []]) (l := [FC Tryz.prog 49 [(.p (cupP c))] [] 2 (.p (intP (checkP c))) []]) (by kernel_rfl) (gc (FV.fc (check_ok c h0) rfl) gn)
theorem asked_ok (c : Cup) (hS : KL.Small c) {base : Nat} : FV Tryz.prog 88 [.p (cupP c)] base (.tup [.p (cupP c), .p (intP (checkP c))]) [] := asked_p0 hS rfl
theorem named_p0 {c : Cup} {k : Int} (h0 : KL.Small c) (h1 : (checkP c) = (0 : Int)) (h2 : inR (c.sk - (1 : Int))) (h3 : (within k (0 : Int) (c.sk - (1 : Int))) = false) {base : Nat} : FV Tryz.prog 107 [(.p (cupP c)), (.p (intP k))] base (.tup [(.p (cupP c)), (.p (intP 1))]) [] := by
  exact FV.fin Tryz.func107 rfl (o := [.c (.tup [(.p (cupP c)), (.p (intP (checkP c)))]) [], .b true, .b true, .b true, .b true, .b true, .c (.p (blP (within k (0 : Int) (c.sk - (1 : Int))))) [], .b true, .b true, .b true]) (l := [_, _, _, FC Tryz.prog 89 [(.p (intP k)), (.p (intP 0)), (.p (intP (c.sk - (1 : Int))))] [] 3 (.p (blP (within k (0 : Int) (c.sk - (1 : Int))))) [], _, _, _, _, _, _, FC Tryz.prog 88 [(.p (cupP c))] [] 2 (.tup [(.p (cupP c)), (.p (intP (checkP c)))]) []]) (by kernel_rfl) (gc (q_not h3) (gc (q_eq h1) (gc (q_eq h1) (gc (FV.fc (within_ok k (0 : Int) (c.sk - (1 : Int))) rfl) (gc (q_eq h1) (gc h2 (gc (q_eq h1) (gc (q_eq h1) (gc (q_eq h1) (gc (q_eq h1) (gc (FV.fc (asked_ok c h0) rfl) gn)))))))))))
theorem named_p1 {c : Cup} {k r0 : Int} (h0 : KL.Small c) (h1 : (checkP c) = (0 : Int)) (h2 : inR (c.sk - (1 : Int))) (h3 : (within k (0 : Int) (c.sk - (1 : Int))) = true) (er0 : r0 = (checkP c)) {base : Nat} : FV Tryz.prog 107 [(.p (cupP c)), (.p (intP k))] base (.tup [(.p (cupP c)), (.p (intP r0))]) [] := by
  subst er0
  exact FV.fin Tryz.func107 rfl (o := [.c (.tup [(.p (cupP c)), (.p (intP (checkP c)))]) [], .b true, .b true, .b true, .b true, .b true, .c (.p (blP (within k (0 : Int) (c.sk - (1 : Int))))) [], .b true, .b true, .b false]) (l := [_, _, _, FC Tryz.prog 89 [(.p (intP k)), (.p (intP 0)), (.p (intP (c.sk - (1 : Int))))] [] 3 (.p (blP (within k (0 : Int) (c.sk - (1 : Int))))) [], _, _, _, _, _, _, FC Tryz.prog 88 [(.p (cupP c))] [] 2 (.tup [(.p (cupP c)), (.p (intP (checkP c)))]) []]) (by kernel_rfl) (gc (q_notF h3) (gc (q_eq h1) (gc (q_eq h1) (gc (FV.fc (within_ok k (0 : Int) (c.sk - (1 : Int))) rfl) (gc (q_eq h1) (gc h2 (gc (q_eq h1) (gc (q_eq h1) (gc (q_eq h1) (gc (q_eq h1) (gc (FV.fc (asked_ok c h0) rfl) gn)))))))))))
theorem named_p2 {c : Cup} {k r0 : Int} (h0 : KL.Small c) (h1 : (checkP c) ≠ (0 : Int)) (er0 : r0 = (checkP c)) {base : Nat} : FV Tryz.prog 107 [(.p (cupP c)), (.p (intP k))] base (.tup [(.p (cupP c)), (.p (intP r0))]) [] := by
  subst er0
  exact FV.fin Tryz.func107 rfl (o := [.c (.tup [(.p (cupP c)), (.p (intP (checkP c)))]) [], .b false, .b false, .b false, .b false, .b false, .b false, .b false]) (l := [_, _, _, _, _, _, _, FC Tryz.prog 88 [(.p (cupP c))] [] 2 (.tup [(.p (cupP c)), (.p (intP (checkP c)))]) []]) (by kernel_rfl) (gc (q_ne h1) (gc (q_ne h1) (gc (q_ne h1) (gc (q_ne h1) (gc (q_ne h1) (gc (q_ne h1) (gc (q_ne h1) (gc (FV.fc (asked_ok c h0) rfl) gn))))))))
theorem within_iff {n lo hi : Int} : within n lo hi = true ↔ lo ≤ n ∧ n ≤ hi := by unfold within; simp
def namedE (c : Cup) (k : Int) : Int := if checkP c ≠ 0 then checkP c else if within k 0 (c.sk - 1) then 0 else 1
theorem named_ok (c : Cup) (hS : KL.Small c) (k : Int) {base : Nat} : FV Tryz.prog 107 [.p (cupP c), .p (intP k)] base (.tup [.p (cupP c), .p (intP (namedE c k))]) [] := by
  unfold namedE
  by_cases h : checkP c = 0
  · have hV := (KL.valid_iff c).1 h
    have h1 := hV.sk1
    have h2 := hV.sk2
    rw [if_neg (by simpa using h)]
    cases hw : within k 0 (c.sk - 1) with
    | true => exact named_p1 hS h (by unfold inR; omega) hw (by simp [h])
    | false => exact named_p0 hS h (by unfold inR; omega) hw
  · rw [if_pos h]; exact named_p2 hS h rfl
def whoM (p : Nat → Bool) (n : Nat) : List Int := ((List.range n).filter p).map fun (s : Nat) => (s : Int)
theorem canQ_p0  {base : Nat} : FV Tryz.prog 109 [] base (.agg [(.fn 137 [] [])]) [] := by
  exact FV.fin Tryz.func109 rfl (o := []) (l := []) (by kernel_rfl) (gn)
def canA_S0 (c : Cup) (i : Nat) (on : Nat) (oc : List PV) : St := ⟨fr 24 [(2, (.ptr 0 0)), (3, (.ptr 1 0)), (4, (.p nilS)), (5, (.own 2)), (9, (.p (intP c.sk))), (10, (.p (intP (i : Int))))], [some (.box 144 [(.fn 137 [] [])]), some (.box 120 [(.p (intP c.sk)), (.p (intP c.ra)), (.p (intP c.be)), (.p (intsP c.pts)), (.p (rowsP c.done))]), some (.row 3 on oc)]⟩
theorem canA_p0 {c : Cup} {i'0 : Nat} {o'1 : List Int} (hl0 : LoopOK Tryz.prog 0 zK3c0 (canA_S0 c 0 0 []) (.exit 0) (canA_S0 c i'0 o'1.length (o'1.map intP))) {base : Nat} : FV Tryz.prog 110 [(.agg [(.fn 137 [] [])]), (.p (cupP c))] base (.p (intsP o'1)) [] := by
  exact FV.frz (FMM.fin (k := 0) (g := ⟨[], [], [2], []⟩) rfl Tryz.func110 rfl (o := [.k 8 ⟨(rng [(0, 2), (6, 3), (11, 12)]), [0, 1, 2], [], [(5, 3)]⟩ (.exit 0) (canA_S0 c i'0 o'1.length (o'1.map intP))]) (l := [_]) (by kernel_rfl) (gc hl0.code gn)) (by kernel_rfl)
theorem canA_L0_p0 {c : Cup} {i : Nat} {o : List Int} {i' : Nat} {o' : List Int} (h0 : (i : Int) < c.sk) (h1 : KL.Valid c) (h2 : ((i : Nat) : Int) < c.sk) (h3 : (canM c i) = true) (h4 : [(intP (i : Int))].length = 1 * 1 ∧ o.length + 1 ≤ 1000000) (h5 : inR (((i + 1) : Nat) : Int)) (ei' : i' = (i + 1)) (eo'n : o'.length = (o.length + 1)) (eo'c : o'.map intP = ((o.map intP) ++ [(intP (i : Int))])) : CodeOK Tryz.prog 0 zK3c0 (canA_S0 c i o.length (o.map intP)) .normal (canA_S0 c i' o'.length (o'.map intP)) := by
  subst ei'
  have raw : CodeOK Tryz.prog 0 zK3c0 (canA_S0 c i o.length (o.map intP)) .normal (canA_S0 c (i + 1) (o.length + 1) ((o.map intP) ++ [(intP (i : Int))])) := CodeOK.fin (g := ⟨(rng [(0, 2), (6, 3), (11, 12)]), [0, 1, 4], [], []⟩) (o := [.b true, .c (.p (blP (canM c i))) [], .b true]) (l := [_, _, _, FC Tryz.prog 137 [(.p (cupP c)), (.p (intP (i : Int)))] [] 3 (.p (blP (canM c i))) [], _]) (by kernel_rfl) (gc h5 (gc h4 (gc h3 (gc (FV.fc (can_ok c h1 i h2) rfl) (gc (q_lt h0) gn)))))
  exact raw.cast (by rw [eo'n, eo'c])
theorem canA_L0_p1 {c : Cup} {i : Nat} {o : List Int} {i' : Nat} (h0 : (i : Int) < c.sk) (h1 : KL.Valid c) (h2 : ((i : Nat) : Int) < c.sk) (h3 : (canM c i) = false) (h4 : inR (((i + 1) : Nat) : Int)) (ei' : i' = (i + 1)) : CodeOK Tryz.prog 0 zK3c0 (canA_S0 c i o.length (o.map intP)) .normal (canA_S0 c i' o.length (o.map intP)) := by
  subst ei'
  exact CodeOK.fin (g := ⟨(rng [(0, 2), (6, 3), (11, 12)]), [0, 1, 2], [], []⟩) (o := [.b true, .c (.p (blP (canM c i))) [], .b false]) (l := [_, _, FC Tryz.prog 137 [(.p (cupP c)), (.p (intP (i : Int)))] [] 3 (.p (blP (canM c i))) [], _]) (by kernel_rfl) (gc h4 (gc h3 (gc (FV.fc (can_ok c h1 i h2) rfl) (gc (q_lt h0) gn))))
theorem canA_L0_p2 {c : Cup} {i : Nat} {o : List Int} (h0 : c.sk ≤ (i : Int)) : CodeOK Tryz.prog 0 zK3c0 (canA_S0 c i o.length (o.map intP)) (.exit 0) (canA_S0 c i o.length (o.map intP)) := by
  exact CodeOK.fin (g := ⟨(rng [(0, 2), (6, 3), (11, 12)]), [0, 1, 2], [], []⟩) (o := [.b false]) (l := [_]) (by kernel_rfl) (gc (q_ltF h0) gn)
theorem canA_ok (c : Cup) (hV : KL.Valid c) {base : Nat} : FV Tryz.prog 110 [.agg [.fn 137 [] []], .p (cupP c)] base (.p (intsP (whoM (canM c) c.sk.toNat))) [] := by
  have h1 := hV.sk1
  have h2 := hV.sk2
  have h := LoopOK.times (P := Tryz.prog) (k := 0) (b := zK3c0) (e := .exit 0) (fun i (o : List Int) => canA_S0 c i o.length (o.map intP)) (fun o => canA_S0 c c.sk.toNat o.length (o.map intP)) (fun acc s => if canM c s then acc ++ [(s : Int)] else acc) (fun i o => o.length ≤ i) (by simp) c.sk.toNat (a0 := []) (by simp)
    (fun i o hi hI => by
      cases hc : canM c i with
      | true => exact ⟨by simp; omega, canA_L0_p0 (by omega) hV (by omega) hc (by simp; omega) (inR_nat (by omega)) rfl (by simp) (by simp)⟩
      | false => exact ⟨by simp; omega, canA_L0_p1 (by omega) hV (by omega) hc (inR_nat (by omega)) rfl⟩)
    (fun o _ => canA_L0_p2 (by omega))
  rw [foldl_filter] at h
  exact canA_p0 h
theorem canE_p1 {c : Cup} (h0 : KL.Small c) (h1 : (checkP c) = (0 : Int)) (h2 : KL.Valid c) {base : Nat} : FV Tryz.prog 37 [(.p (cupP c))] base (.tup [(.p (intsP (whoM (canM c) c.sk.toNat))), (.p (intP 0))]) [] := by
  exact FV.frz (FMM.fin (k := 0) (g := ⟨[], [], [], []⟩) rfl Tryz.func37 rfl (o := [.c (.tup [(.p (cupP c)), (.p (intP (checkP c)))]) [], .b false, .c (.agg [(.fn 137 [] [])]) [], .c (.p (intsP (whoM (canM c) c.sk.toNat))) []]) (l := [FC Tryz.prog 110 [(.agg [(.fn 137 [] [])]), (.p (cupP c))] [] 6 (.p (intsP (whoM (canM c) c.sk.toNat))) [], FC Tryz.prog 109 [] [] 2 (.agg [(.fn 137 [] [])]) [], _, FC Tryz.prog 88 [(.p (cupP c))] [] 1 (.tup [(.p (cupP c)), (.p (intP (checkP c)))]) []]) (by kernel_rfl) (gc (FV.fc (canA_ok c h2) rfl) (gc (FV.fc canQ_p0 (by kernel_rfl)) (gc (q_neF h1) (gc (FV.fc (asked_ok c h0) rfl) gn))))) (by kernel_rfl)
theorem canE_ok (c : Cup) (hV : KL.Valid c) {base : Nat} : FV Tryz.prog 37 [.p (cupP c)] base (.tup [.p (intsP (whoM (canM c) c.sk.toNat)), .p (intP 0)]) [] := canE_p1 hV.small ((KL.valid_iff c).2 hV) hV
theorem sureQ_p0  {base : Nat} : FV Tryz.prog 111 [] base (.agg [(.fn 149 [] [])]) [] := by
  exact FV.fin Tryz.func111 rfl (o := []) (l := []) (by kernel_rfl) (gn)
def sureA_S0 (c : Cup) (i : Nat) (on : Nat) (oc : List PV) : St := ⟨fr 24 [(2, (.ptr 0 0)), (3, (.ptr 1 0)), (4, (.p nilS)), (5, (.own 2)), (9, (.p (intP c.sk))), (10, (.p (intP (i : Int))))], [some (.box 144 [(.fn 149 [] [])]), some (.box 120 [(.p (intP c.sk)), (.p (intP c.ra)), (.p (intP c.be)), (.p (intsP c.pts)), (.p (rowsP c.done))]), some (.row 3 on oc)]⟩
theorem sureA_p0 {c : Cup} {i'0 : Nat} {o'1 : List Int} (hl0 : LoopOK Tryz.prog 0 zK3c0 (sureA_S0 c 0 0 []) (.exit 0) (sureA_S0 c i'0 o'1.length (o'1.map intP))) {base : Nat} : FV Tryz.prog 110 [(.agg [(.fn 149 [] [])]), (.p (cupP c))] base (.p (intsP o'1)) [] := by
  exact FV.frz (FMM.fin (k := 0) (g := ⟨[], [], [2], []⟩) rfl Tryz.func110 rfl (o := [.k 8 ⟨(rng [(0, 2), (6, 3), (11, 12)]), [0, 1, 2], [], [(5, 3)]⟩ (.exit 0) (sureA_S0 c i'0 o'1.length (o'1.map intP))]) (l := [_]) (by kernel_rfl) (gc hl0.code gn)) (by kernel_rfl)
theorem sureA_L0_p0 {c : Cup} {i : Nat} {o : List Int} {i' : Nat} {o' : List Int} (h0 : (i : Int) < c.sk) (h1 : KL.Valid c) (h2 : ((i : Nat) : Int) < c.sk) (h3 : (sureM c i) = true) (h4 : [(intP (i : Int))].length = 1 * 1 ∧ o.length + 1 ≤ 1000000) (h5 : inR (((i + 1) : Nat) : Int)) (ei' : i' = (i + 1)) (eo'n : o'.length = (o.length + 1)) (eo'c : o'.map intP = ((o.map intP) ++ [(intP (i : Int))])) : CodeOK Tryz.prog 0 zK3c0 (sureA_S0 c i o.length (o.map intP)) .normal (sureA_S0 c i' o'.length (o'.map intP)) := by
  subst ei'
  have raw : CodeOK Tryz.prog 0 zK3c0 (sureA_S0 c i o.length (o.map intP)) .normal (sureA_S0 c (i + 1) (o.length + 1) ((o.map intP) ++ [(intP (i : Int))])) := CodeOK.fin (g := ⟨(rng [(0, 2), (6, 3), (11, 12)]), [0, 1, 4], [], []⟩) (o := [.b true, .c (.p (blP (sureM c i))) [], .b true]) (l := [_, _, _, FC Tryz.prog 149 [(.p (cupP c)), (.p (intP (i : Int)))] [] 3 (.p (blP (sureM c i))) [], _]) (by kernel_rfl) (gc h5 (gc h4 (gc h3 (gc (FV.fc (sure_ok c h1 i h2) rfl) (gc (q_lt h0) gn)))))
  exact raw.cast (by rw [eo'n, eo'c])
theorem sureA_L0_p1 {c : Cup} {i : Nat} {o : List Int} {i' : Nat} (h0 : (i : Int) < c.sk) (h1 : KL.Valid c) (h2 : ((i : Nat) : Int) < c.sk) (h3 : (sureM c i) = false) (h4 : inR (((i + 1) : Nat) : Int)) (ei' : i' = (i + 1)) : CodeOK Tryz.prog 0 zK3c0 (sureA_S0 c i o.length (o.map intP)) .normal (sureA_S0 c i' o.length (o.map intP)) := by
  subst ei'
  exact CodeOK.fin (g := ⟨(rng [(0, 2), (6, 3), (11, 12)]), [0, 1, 2], [], []⟩) (o := [.b true, .c (.p (blP (sureM c i))) [], .b false]) (l := [_, _, FC Tryz.prog 149 [(.p (cupP c)), (.p (intP (i : Int)))] [] 3 (.p (blP (sureM c i))) [], _]) (by kernel_rfl) (gc h4 (gc h3 (gc (FV.fc (sure_ok c h1 i h2) rfl) (gc (q_lt h0) gn))))
theorem sureA_L0_p2 {c : Cup} {i : Nat} {o : List Int} (h0 : c.sk ≤ (i : Int)) : CodeOK Tryz.prog 0 zK3c0 (sureA_S0 c i o.length (o.map intP)) (.exit 0) (sureA_S0 c i o.length (o.map intP)) := by
  exact CodeOK.fin (g := ⟨(rng [(0, 2), (6, 3), (11, 12)]), [0, 1, 2], [], []⟩) (o := [.b false]) (l := [_]) (by kernel_rfl) (gc (q_ltF h0) gn)
theorem sureA_ok (c : Cup) (hV : KL.Valid c) {base : Nat} : FV Tryz.prog 110 [.agg [.fn 149 [] []], .p (cupP c)] base (.p (intsP (whoM (sureM c) c.sk.toNat))) [] := by
  have h1 := hV.sk1
  have h2 := hV.sk2
  have h := LoopOK.times (P := Tryz.prog) (k := 0) (b := zK3c0) (e := .exit 0) (fun i (o : List Int) => sureA_S0 c i o.length (o.map intP)) (fun o => sureA_S0 c c.sk.toNat o.length (o.map intP)) (fun acc s => if sureM c s then acc ++ [(s : Int)] else acc) (fun i o => o.length ≤ i) (by simp) c.sk.toNat (a0 := []) (by simp)
    (fun i o hi hI => by
      cases hc : sureM c i with
      | true => exact ⟨by simp; omega, sureA_L0_p0 (by omega) hV (by omega) hc (by simp; omega) (inR_nat (by omega)) rfl (by simp) (by simp)⟩
      | false => exact ⟨by simp; omega, sureA_L0_p1 (by omega) hV (by omega) hc (inR_nat (by omega)) rfl⟩)
    (fun o _ => sureA_L0_p2 (by omega))
  rw [foldl_filter] at h
  exact sureA_p0 h
theorem sureE_p1 {c : Cup} (h0 : KL.Small c) (h1 : (checkP c) = (0 : Int)) (h2 : KL.Valid c) {base : Nat} : FV Tryz.prog 38 [(.p (cupP c))] base (.tup [(.p (intsP (whoM (sureM c) c.sk.toNat))), (.p (intP 0))]) [] := by
  exact FV.frz (FMM.fin (k := 0) (g := ⟨[], [], [], []⟩) rfl Tryz.func38 rfl (o := [.c (.tup [(.p (cupP c)), (.p (intP (checkP c)))]) [], .b false, .c (.agg [(.fn 149 [] [])]) [], .c (.p (intsP (whoM (sureM c) c.sk.toNat))) []]) (l := [FC Tryz.prog 110 [(.agg [(.fn 149 [] [])]), (.p (cupP c))] [] 6 (.p (intsP (whoM (sureM c) c.sk.toNat))) [], FC Tryz.prog 111 [] [] 2 (.agg [(.fn 149 [] [])]) [], _, FC Tryz.prog 88 [(.p (cupP c))] [] 1 (.tup [(.p (cupP c)), (.p (intP (checkP c)))]) []]) (by kernel_rfl) (gc (FV.fc (sureA_ok c h2) rfl) (gc (FV.fc sureQ_p0 (by kernel_rfl)) (gc (q_neF h1) (gc (FV.fc (asked_ok c h0) rfl) gn))))) (by kernel_rfl)
theorem sureE_ok (c : Cup) (hV : KL.Valid c) {base : Nat} : FV Tryz.prog 38 [.p (cupP c)] base (.tup [.p (intsP (whoM (sureM c) c.sk.toNat)), .p (intP 0)]) [] := sureE_p1 hV.small ((KL.valid_iff c).2 hV) hV
end
section
open KL
noncomputable abbrev zK4c0 : Code := sub (cd Tryz.f185) [1, 0, 0, 1, 0, 0, 1, 0, 0]
noncomputable abbrev zK4c1 : Code := sub (cd Tryz.f200) [1, 0, 0, 1, 0, 0, 1, 0, 0]
noncomputable abbrev zK4c2 : Code := sub (cd Tryz.f183) [1, 0, 0, 1, 0, 0, 1, 0, 0]
noncomputable abbrev zK4c3 : Code := sub (cd Tryz.f185) [1, 0, 0]
noncomputable abbrev zK4c4 : Code := sub (cd Tryz.f200) [1, 0, 0]
noncomputable abbrev zK4c5 : Code := sub (cd Tryz.f183) [1, 0, 0]
def ltK (f : Nat) (x y : List Int) : Bool := decide (cmpI (x.getD f 0) (y.getD f 0) < 0)
theorem srtLc_p0 {a0 a1 a2 a3 b0 b1 b2 b3 r0 : Int} (er0 : r0 = (cmpI a1 b1)) {base : Nat} : FV Tryz.prog 106 [(.p (.agg [(intP a0), (intP a1), (intP a2), (intP a3)])), (.p (.agg [(intP b0), (intP b1), (intP b2), (intP b3)]))] base (.p (intP r0)) [] := by
  subst er0
  exact FV.fin Tryz.func106 rfl (o := [.c (.p (intP (cmpI a1 b1))) []]) (l := [FC Tryz.prog 97 [(.p (intP a1)), (.p (intP b1))] [] 2 (.p (intP (cmpI a1 b1))) []]) (by kernel_rfl) (gc (FV.fc (cmp_ok a1 b1) rfl) gn)
def srtLI_S0 (l : List (List Int)) (i : Nat) (Ln : Nat) (Lc : List PV) : St := ⟨fr 53 [(0, (.own 0)), (1, (.p (intP 0))), (2, (.p (intP (l.length : Int)))), (3, (.fn 106 [] [])), (8, (.p (intP (i : Int))))], [some (.row 61 Ln Lc)]⟩
theorem srtLI_p0 {l : List (List Int)} {i'0 : Nat} {L'1 : List (List Int)} (hl0 : LoopOK Tryz.prog 1 zK4c3 (srtLI_S0 l 1 l.length (l.flatten.map intP)) (.exit 0) (srtLI_S0 l i'0 L'1.length (L'1.flatten.map intP))) : FMM Tryz.prog 185 [(.own 0), (.p (intP 0)), (.p (intP (l.length : Int))), (.fn 106 [] [])] [some (.row 61 l.length (l.flatten.map intP))] (.tup []) [some (.row 61 L'1.length (L'1.flatten.map intP))] := by
  exact FMM.fin (k := 1) (g := ⟨[], [], [], []⟩) rfl Tryz.func185 rfl (o := [.k 3 ⟨(rng [(4, 4), (9, 44)]), [], [], []⟩ (.exit 0) (srtLI_S0 l i'0 L'1.length (L'1.flatten.map intP))]) (l := [_, inR (1 : Int)]) (by kernel_rfl) (gc hl0.code (gc (by unfold inR; omega) gn))
def srtLI_S1 (l : List (List Int)) (i : Nat) (j : Int) (Mn : Nat) (Mc : List PV) : St := ⟨fr 53 [(0, (.own 0)), (1, (.p (intP 0))), (2, (.p (intP (l.length : Int)))), (3, (.fn 106 [] [])), (8, (.p (intP (i : Int)))), (9, (.p (intP j))), (12, (.p (intP (i : Int)))), (13, (.p (intP (l.length : Int)))), (14, (.p (blP (decide ((i : Int) < (l.length : Int)))))), (17, (.p (intP (i : Int))))], [some (.row 61 Mn Mc)]⟩
theorem srtLI_L0_p0 {l : List (List Int)} {i : Nat} {L : List (List Int)} {j'100 : Int} {M'101 : List (List Int)} {i' : Nat} {L' : List (List Int)} (h0 : (i : Int) < (l.length : Int)) (hl1 : LoopOK Tryz.prog 1 zK4c0 (srtLI_S1 l i (i : Int) L.length (L.flatten.map intP)) (.exit 2) (srtLI_S1 l i j'100 M'101.length (M'101.flatten.map intP))) (h2 : inR (((i + 1) : Nat) : Int)) (ei' : i' = (i + 1)) (eL'n : L'.length = M'101.length) (eL'c : L'.flatten.map intP = (M'101.flatten.map intP)) : CodeOK Tryz.prog 1 zK4c3 (srtLI_S0 l i L.length (L.flatten.map intP)) .normal (srtLI_S0 l i' L'.length (L'.flatten.map intP)) := by
  subst ei'
  have raw : CodeOK Tryz.prog 1 zK4c3 (srtLI_S0 l i L.length (L.flatten.map intP)) .normal (srtLI_S0 l (i + 1) M'101.length (M'101.flatten.map intP)) := CodeOK.fin (g := ⟨(rng [(4, 4), (9, 44)]), [], [], []⟩) (o := [.b true, .k 5 ⟨(rng [(4, 4), (10, 2), (18, 35)]), [], [], []⟩ (.exit 2) (srtLI_S1 l i j'100 M'101.length (M'101.flatten.map intP))]) (l := [_, _, _]) (by kernel_rfl) (gc h2 (gc hl1.code (gc (q_lt h0) gn)))
  exact raw.cast (by rw [eL'n, eL'c])
theorem srtLI_L0_p1 {l : List (List Int)} {i : Nat} {L : List (List Int)} (h0 : (l.length : Int) ≤ (i : Int)) : CodeOK Tryz.prog 1 zK4c3 (srtLI_S0 l i L.length (L.flatten.map intP)) (.exit 0) (srtLI_S0 l i L.length (L.flatten.map intP)) := by
  exact CodeOK.fin (g := ⟨(rng [(4, 4), (9, 44)]), [], [], []⟩) (o := [.b false]) (l := [_]) (by kernel_rfl) (gc (q_ltF h0) gn)
theorem srtLI_L1_p0 {l : List (List Int)} {i : Nat} {j : Int} {M : List (List Int)} {y200 y201 y202 y203 y204 y205 y206 y207 j' : Int} {M' : List (List Int)} (h0 : (0 : Int) < j) (h1 : M[j.toNat]? = some [y200, y201, y202, y203]) (h2 : 0 ≤ j) (h3 : uni 4 M) (h4 : inR (j - (1 : Int))) (h5 : M[(j - (1 : Int)).toNat]? = some [y204, y205, y206, y207]) (h6 : 0 ≤ (j - (1 : Int))) (h7 : (cmpI y201 y205) < (0 : Int)) (h8 : [(intP y204), (intP y205), (intP y206), (intP y207)].length = 4 ∧ (j.toNat * 4) + 4 ≤ (M.flatten.map intP).length) (h9 : 0 ≤ (j - (1 : Int)) ∧ (j - (1 : Int)) < (M.length : Int)) (h10 : [(intP y200), (intP y201), (intP y202), (intP y203)].length = 4 ∧ ((j - (1 : Int)).toNat * 4) + 4 ≤ ((M.flatten.map intP).take (j.toNat * 4) ++ [(intP y204), (intP y205), (intP y206), (intP y207)] ++ (M.flatten.map intP).drop ((j.toNat * 4) + 4)).length) (ej' : j' = (j - (1 : Int))) (eM'n : M'.length = M.length) (eM'c : M'.flatten.map intP = (((M.flatten.map intP).take (j.toNat * 4) ++ [(intP y204), (intP y205), (intP y206), (intP y207)] ++ (M.flatten.map intP).drop ((j.toNat * 4) + 4)).take ((j - (1 : Int)).toNat * 4) ++ [(intP y200), (intP y201), (intP y202), (intP y203)] ++ ((M.flatten.map intP).take (j.toNat * 4) ++ [(intP y204), (intP y205), (intP y206), (intP y207)] ++ (M.flatten.map intP).drop ((j.toNat * 4) + 4)).drop (((j - (1 : Int)).toNat * 4) + 4))) : CodeOK Tryz.prog 1 zK4c0 (srtLI_S1 l i j M.length (M.flatten.map intP)) .normal (srtLI_S1 l i j' M'.length (M'.flatten.map intP)) := by
  subst ej'
  have raw : CodeOK Tryz.prog 1 zK4c0 (srtLI_S1 l i j M.length (M.flatten.map intP)) .normal (srtLI_S1 l i (j - (1 : Int)) M.length (((M.flatten.map intP).take (j.toNat * 4) ++ [(intP y204), (intP y205), (intP y206), (intP y207)] ++ (M.flatten.map intP).drop ((j.toNat * 4) + 4)).take ((j - (1 : Int)).toNat * 4) ++ [(intP y200), (intP y201), (intP y202), (intP y203)] ++ ((M.flatten.map intP).take (j.toNat * 4) ++ [(intP y204), (intP y205), (intP y206), (intP y207)] ++ (M.flatten.map intP).drop ((j.toNat * 4) + 4)).drop (((j - (1 : Int)).toNat * 4) + 4))) := CodeOK.fin (g := ⟨(rng [(4, 4), (10, 2), (18, 35)]), [], [], []⟩) (o := [.b true, .b true, .b true, .b true, .b true, .x (.agg [(intP y200), (intP y201), (intP y202), (intP y203)]), .b true, .b true, .b true, .b true, .b true, .x (.agg [(intP y204), (intP y205), (intP y206), (intP y207)]), .b true, .c (.p (intP (cmpI y201 y205))) [], .b true, .b true, .b true, .x (.agg [(intP y204), (intP y205), (intP y206), (intP y207)]), .x (.agg [(intP y200), (intP y201), (intP y202), (intP y203)])]) (l := [_, _, _, _, _, some (.agg (((M.flatten.map intP).drop (j.toNat * 4)).take 4) : PV) = some (.agg [(intP y200), (intP y201), (intP y202), (intP y203)]), _, _, some (.agg (((M.flatten.map intP).drop ((j - (1 : Int)).toNat * 4)).take 4) : PV) = some (.agg [(intP y204), (intP y205), (intP y206), (intP y207)]), _, _, _, _, _, _, _, FC Tryz.prog 106 [(.p (.agg [(intP y200), (intP y201), (intP y202), (intP y203)])), (.p (.agg [(intP y204), (intP y205), (intP y206), (intP y207)]))] [] 1 (.p (intP (cmpI y201 y205))) [], _, some (.agg (((M.flatten.map intP).drop ((j - (1 : Int)).toNat * 4)).take 4) : PV) = some (.agg [(intP y204), (intP y205), (intP y206), (intP y207)]), _, _, _, _, _, _, _, _, some (.agg (((M.flatten.map intP).drop (j.toNat * 4)).take 4) : PV) = some (.agg [(intP y200), (intP y201), (intP y202), (intP y203)]), _, _, _, _, _, _, _]) (by kernel_rfl) (gc h4 (gc h10 (gc h9 (gc h8 (gc (ix_own (i := j) h2 h1) (gc (fl_load (i := j.toNat) h3 h1) (gc (fl_le (i := j.toNat) h3 h1) (gc (ix_own (i := j) h2 h1) (gc (fl_load (i := (j - (1 : Int)).toNat) h3 h5) (gc (fl_le (i := (j - (1 : Int)).toNat) h3 h5) (gc (ix_own (i := (j - (1 : Int))) h6 h5) (gc h4 (gc h4 (gc (q_lt h7) (gc (q_lt h0) (gc (q_lt h0) (gc (FV.fc (srtLc_p0 rfl) rfl) (gc (q_lt h0) (gc (fl_load (i := (j - (1 : Int)).toNat) h3 h5) (gc (fl_le (i := (j - (1 : Int)).toNat) h3 h5) (gc (q_lt h0) (gc (ix_own (i := (j - (1 : Int))) h6 h5) (gc (q_lt h0) (gc h4 (gc (q_lt h0) (gc (q_lt h0) (gc (q_lt h0) (gc (fl_load (i := j.toNat) h3 h1) (gc (fl_le (i := j.toNat) h3 h1) (gc (q_lt h0) (gc (ix_own (i := j) h2 h1) (gc (q_lt h0) (gc (q_lt h0) (gc (q_lt h0) (gc (q_lt h0) gn)))))))))))))))))))))))))))))))))))
  exact raw.cast (by rw [eM'n, eM'c])
theorem srtLI_L1_p1 {l : List (List Int)} {i : Nat} {j : Int} {M : List (List Int)} {y200 y201 y202 y203 y204 y205 y206 y207 : Int} (h0 : (0 : Int) < j) (h1 : M[j.toNat]? = some [y200, y201, y202, y203]) (h2 : 0 ≤ j) (h3 : uni 4 M) (h4 : inR (j - (1 : Int))) (h5 : M[(j - (1 : Int)).toNat]? = some [y204, y205, y206, y207]) (h6 : 0 ≤ (j - (1 : Int))) (h7 : (0 : Int) ≤ (cmpI y201 y205)) : CodeOK Tryz.prog 1 zK4c0 (srtLI_S1 l i j M.length (M.flatten.map intP)) (.exit 2) (srtLI_S1 l i j M.length (M.flatten.map intP)) := by
  exact CodeOK.fin (g := ⟨(rng [(4, 4), (10, 2), (18, 35)]), [], [], []⟩) (o := [.b true, .b true, .b true, .b true, .b true, .x (.agg [(intP y200), (intP y201), (intP y202), (intP y203)]), .b true, .b true, .b true, .b true, .b true, .x (.agg [(intP y204), (intP y205), (intP y206), (intP y207)]), .b true, .c (.p (intP (cmpI y201 y205))) [], .b true, .b true, .b false]) (l := [_, _, _, FC Tryz.prog 106 [(.p (.agg [(intP y200), (intP y201), (intP y202), (intP y203)])), (.p (.agg [(intP y204), (intP y205), (intP y206), (intP y207)]))] [] 1 (.p (intP (cmpI y201 y205))) [], _, some (.agg (((M.flatten.map intP).drop ((j - (1 : Int)).toNat * 4)).take 4) : PV) = some (.agg [(intP y204), (intP y205), (intP y206), (intP y207)]), _, _, _, _, _, _, _, _, some (.agg (((M.flatten.map intP).drop (j.toNat * 4)).take 4) : PV) = some (.agg [(intP y200), (intP y201), (intP y202), (intP y203)]), _, _, _, _, _, _, _]) (by kernel_rfl) (gc (q_ltF h7) (gc (q_lt h0) (gc (q_lt h0) (gc (FV.fc (srtLc_p0 rfl) rfl) (gc (q_lt h0) (gc (fl_load (i := (j - (1 : Int)).toNat) h3 h5) (gc (fl_le (i := (j - (1 : Int)).toNat) h3 h5) (gc (q_lt h0) (gc (ix_own (i := (j - (1 : Int))) h6 h5) (gc (q_lt h0) (gc h4 (gc (q_lt h0) (gc (q_lt h0) (gc (q_lt h0) (gc (fl_load (i := j.toNat) h3 h1) (gc (fl_le (i := j.toNat) h3 h1) (gc (q_lt h0) (gc (ix_own (i := j) h2 h1) (gc (q_lt h0) (gc (q_lt h0) (gc (q_lt h0) (gc (q_lt h0) gn))))))))))))))))))))))
theorem srtLI_L1_p2 {l : List (List Int)} {i : Nat} {j : Int} {M : List (List Int)} (h0 : j ≤ (0 : Int)) : CodeOK Tryz.prog 1 zK4c0 (srtLI_S1 l i j M.length (M.flatten.map intP)) (.exit 2) (srtLI_S1 l i j M.length (M.flatten.map intP)) := by
  exact CodeOK.fin (g := ⟨(rng [(4, 4), (10, 2), (18, 35)]), [], [], []⟩) (o := [.b false, .b false, .b false, .b false, .b false, .b false, .b false, .b false, .b false, .b false, .b false, .b false, .b false]) (l := [_, _, _, _, _, _, _, _, _, _, _, _, _]) (by kernel_rfl) (gc (q_ltF h0) (gc (q_ltF h0) (gc (q_ltF h0) (gc (q_ltF h0) (gc (q_ltF h0) (gc (q_ltF h0) (gc (q_ltF h0) (gc (q_ltF h0) (gc (q_ltF h0) (gc (q_ltF h0) (gc (q_ltF h0) (gc (q_ltF h0) (gc (q_ltF h0) gn)))))))))))))
theorem srtL_in (l : List (List Int)) (i : Nat) (A R : List (List Int)) (hA : A.length < 1000) (hi : i = A.length) (x0 x1 x2 x3 : Int) (hu : uni 4 (A ++ [x0, x1, x2, x3] :: R)) : ∀ m, m ≤ A.length → (∀ t (h : t < A.length), m ≤ t → ltK 1 [x0, x1, x2, x3] A[t] = true) →
    LoopOK Tryz.prog 1 zK4c0 (srtLI_S1 l i (m : Int) (mv A [x0, x1, x2, x3] m R).length ((mv A [x0, x1, x2, x3] m R).flatten.map intP)) (.exit 2) (srtLI_S1 l i (insPos (ltK 1) [x0, x1, x2, x3] A : Int) (ins (ltK 1) A [x0, x1, x2, x3] ++ R).length ((ins (ltK 1) A [x0, x1, x2, x3] ++ R).flatten.map intP)) := by
  have huA : ∀ y ∈ A, y.length = 4 := fun y hy => hu y (List.mem_append_left _ hy)
  have huM : ∀ m, uni 4 (mv A [x0, x1, x2, x3] m R) := fun m y hy => by
    unfold mv at hy
    rcases List.mem_append.1 hy with h | h
    · exact huA y (List.mem_of_mem_take h)
    · rcases List.mem_cons.1 h with rfl | h
      · rfl
      · rcases List.mem_append.1 h with h | h
        · exact huA y (List.mem_of_mem_drop h)
        · exact hu y (List.mem_append_right _ (List.mem_cons_of_mem _ h))
  intro m
  induction m with
  | zero =>
    intro _ hlt
    have e := insPos_eq (ltK 1) [x0, x1, x2, x3] A 0 (Nat.zero_le _) hlt (.inl rfl)
    rw [← mv_ins, e]
    exact .exit (srtLI_L1_p2 (by simp)) (by simp)
  | succ m ih =>
    intro hm hlt
    have hy := List.getElem?_eq_getElem (show m < A.length by omega)
    generalize A[m] = y at hy
    obtain ⟨y0, y1, y2, y3, rfl⟩ := len4 (huA y (List.mem_of_getElem? hy))
    have e1 : ((m + 1 : Nat) : Int).toNat = m + 1 := by omega
    have e2 : (((m + 1 : Nat) : Int) - 1).toNat = m := by omega
    have hl := mv_length A [x0, x1, x2, x3] (m + 1) R hm
    have g1 : (mv A [x0, x1, x2, x3] (m + 1) R)[m + 1]? = some [x0, x1, x2, x3] := by rw [mv_get A _ _ R hm]; simp
    have g2 : (mv A [x0, x1, x2, x3] (m + 1) R)[m]? = some [y0, y1, y2, y3] := by rw [mv_get A _ _ R hm, if_pos (by omega)]; exact hy
    by_cases hc : cmpI x1 y1 < 0
    · have st := fl_store (k := 4) (i := m + 1) (x := [y0, y1, y2, y3]) (huM (m + 1)) (by omega) rfl
      have hs1 : uni 4 ((mv A [x0, x1, x2, x3] (m + 1) R).set (m + 1) [y0, y1, y2, y3]) := uni_set (huM _) rfl
      have st2 := fl_store (k := 4) (i := m) (x := [x0, x1, x2, x3]) hs1 (by rw [List.length_set]; omega) rfl
      have gm : ((mv A [x0, x1, x2, x3] (m + 1) R).set (m + 1) [y0, y1, y2, y3])[m]? = some [y0, y1, y2, y3] := by rw [List.getElem?_set, if_neg (by omega)]; exact g2
      have hsw := mv_swap A [x0, x1, x2, x3] (m + 1) R hm (by omega) [y0, y1, y2, y3] (by simpa using hy)
      rw [Nat.add_sub_cancel] at hsw
      simp only [List.map_cons, List.map_nil] at st st2
      refine .step (srtLI_L1_p0 (j := ((m + 1 : Nat) : Int)) (j' := (m : Int)) (M' := mv A [x0, x1, x2, x3] m R) (by omega) (by rw [e1]; exact g1) (by omega) (huM _) (by unfold inR; omega) (by rw [e2]; exact g2) (by omega) hc ⟨rfl, by rw [e1]; exact fl_le (huM _) g1⟩ ⟨by omega, by omega⟩ ⟨rfl, ?_⟩ (by omega) (by rw [hl, mv_length A _ _ R (by omega)]) ?_) (ih (by omega) fun t ht h1 => ?_)
      · rw [e1, e2, st]; exact fl_le hs1 gm
      · rw [e1, e2, st, st2, hsw]
      · by_cases h2 : t = m
        · subst h2
          have h3 := hy
          rw [List.getElem?_eq_getElem ht, Option.some.injEq] at h3
          rw [h3]
          simpa [ltK] using hc
        · exact hlt t ht (by omega)
    · have e := insPos_eq (ltK 1) [x0, x1, x2, x3] A (m + 1) hm hlt (.inr ⟨[y0, y1, y2, y3], by simpa using hy, by simpa [ltK] using hc⟩)
      rw [← mv_ins, e]
      exact .exit (srtLI_L1_p1 (by omega) (by rw [e1]; exact g1) (by omega) (huM _) (by unfold inR; omega) (by rw [e2]; exact g2) (by omega) (by omega)) (by simp)
theorem srtL_ins (l : List (List Int)) (hu : uni 4 l) (hn : l.length < 1000) : FMM Tryz.prog 185 [.own 0, .p (intP 0), .p (intP (l.length : Int)), .fn 106 [] []] [some (.row 61 l.length (l.flatten.map intP))] (.tup []) [some (.row 61 (isort (ltK 1) l).length ((isort (ltK 1) l).flatten.map intP))] := by
  have hui : ∀ i, uni 4 (isort (ltK 1) (l.take i)) := fun i y hy => hu y (List.mem_of_mem_take ((isort_mem (ltK 1) _ y).1 hy))
  have key : ∀ d i, i + d = l.length → 1 ≤ i → LoopOK Tryz.prog 1 zK4c3 (srtLI_S0 l i (isort (ltK 1) (l.take i) ++ l.drop i).length ((isort (ltK 1) (l.take i) ++ l.drop i).flatten.map intP)) (.exit 0) (srtLI_S0 l l.length (isort (ltK 1) l).length ((isort (ltK 1) l).flatten.map intP)) := by
    intro d
    induction d with
    | zero =>
      intro i hi _
      obtain rfl : i = l.length := by omega
      rw [List.take_length, List.drop_length, List.append_nil]
      exact .exit (srtLI_L0_p1 (by omega)) (by simp)
    | succ d ih =>
      intro i hi h1
      have hlt : i < l.length := by omega
      have hx := hu l[i] (List.getElem_mem hlt)
      generalize hxx : l[i] = x at hx
      obtain ⟨x0, x1, x2, x3, rfl⟩ := len4 hx
      have hAl : (isort (ltK 1) (l.take i)).length = i := by rw [isort_length, List.length_take]; omega
      have hdr : l.drop i = [x0, x1, x2, x3] :: l.drop (i + 1) := by rw [List.drop_eq_getElem_cons hlt, hxx]
      have hin := srtL_in l i (isort (ltK 1) (l.take i)) (l.drop (i + 1)) (by omega) hAl.symm x0 x1 x2 x3 (by
        intro y hy
        rcases List.mem_append.1 hy with h | h
        · exact hui i y h
        · rcases List.mem_cons.1 h with rfl | h
          · rfl
          · exact hu y (List.mem_of_mem_drop h)) i (by omega) (fun t ht h2 => by omega)
      have hmv : mv (isort (ltK 1) (l.take i)) [x0, x1, x2, x3] i (l.drop (i + 1)) = isort (ltK 1) (l.take i) ++ l.drop i := by
        have := mv_end (isort (ltK 1) (l.take i)) [x0, x1, x2, x3] (l.drop (i + 1))
        rw [hAl] at this; rw [this, hdr]
      have hsn := isort_snoc (ltK 1) l i hlt
      rw [hxx] at hsn
      rw [hmv, ← hsn] at hin
      exact .step (srtLI_L0_p0 (by omega) hin (by unfold inR; omega) rfl rfl rfl) (ih (i + 1) (by omega) (by omega))
  rcases Nat.eq_zero_or_pos l.length with h0 | hp
  · have : l = [] := List.eq_nil_of_length_eq_zero h0
    subst this
    exact srtLI_p0 (LoopOK.exit (srtLI_L0_p1 (l := []) (L := []) (i := 1) (by simp)) (by simp))
  · have := key (l.length - 1) 1 (by omega) (by omega)
    have e1 : isort (ltK 1) (l.take 1) ++ l.drop 1 = l := by
      cases l with
      | nil => simp at hp
      | cons x r => simp [isort, ins, insPos]
    rw [e1] at this
    exact srtLI_p0 this
def srtLS_S0 (l : List (List Int))  : St := ⟨fr 63 [(0, (.own 0)), (1, (.p (intP (l.length : Int)))), (2, (.fn 106 [] [])), (6, (.p (intP 20))), (7, (.p (intP 0))), (8, (.p (intP 20)))], [some (.row 61 l.length (l.flatten.map intP))]⟩
def srtLS_S1 (l : List (List Int))  : St := ⟨fr 63 [(0, (.own 0)), (1, (.p (intP (l.length : Int)))), (2, (.fn 106 [] [])), (6, (.p (intP 20))), (7, (.p (intP 0))), (8, (.p (intP 20)))], [some (.row 61 ((isort (ltK 1) l).length) ((isort (ltK 1) l).flatten.map intP))]⟩
abbrev zK40 (l : List (List Int)) := isort (ltK 1) l
theorem srtLS_p0 {l : List (List Int)} (hl0 : LoopOK Tryz.prog 1 (sub (cd Tryz.f148) [1, 1, 0, 0, 0]) (srtLS_S0 l ) (.exit 0) (srtLS_S0 l )) (h1 : uni 4 l) (h2 : l.length < 1000) (hl3 : LoopOK Tryz.prog 1 (sub (cd Tryz.f148) [1, 1, 1, 1, 0, 0]) (srtLS_S1 l ) (.exit 2) (srtLS_S1 l )) : FMM Tryz.prog 148 [(.own 0), (.p (intP (l.length : Int))), (.fn 106 [] [])] [some (.row 61 l.length (l.flatten.map intP))] (.tup []) [some (.row 61 ((isort (ltK 1) l).length) ((isort (ltK 1) l).flatten.map intP))] := by
  exact FMM.fin (k := 1) (g := ⟨[], [], [], []⟩) rfl Tryz.func148 rfl (o := [.k 6 ⟨(rng [(3, 3), (10, 13), (27, 1), (43, 1), (60, 1)]), [], [], []⟩ (.exit 0) (srtLS_S0 l ), .c (.tup []) [(0, (.row 61 ((zK40 l).length) ((zK40 l).flatten.map intP)))], .k 1 ⟨(rng [(3, 3), (10, 53)]), [], [], []⟩ (.exit 2) (srtLS_S1 l )]) (l := [_, FC Tryz.prog 185 [(.own 0), (.p (intP 0)), (.p (intP (l.length : Int))), (.fn 106 [] [])] [(0, (.row 61 l.length (l.flatten.map intP)))] 1 (.tup []) [(0, (.row 61 ((zK40 l).length) ((zK40 l).flatten.map intP)))], _]) (by kernel_rfl) (gc hl3.code (gc (FMM.fc (ids := [0]) (srtL_ins l h1 h2) (by kernel_rfl)) (gc hl0.code gn)))
theorem srtLS_L0_p0 {l : List (List Int)} (h0 : (l.length : Int) < (20 : Int)) : CodeOK Tryz.prog 1 (sub (cd Tryz.f148) [1, 1, 0, 0, 0]) (srtLS_S0 l ) (.exit 0) (srtLS_S0 l ) := by
  exact CodeOK.fin (g := ⟨(rng [(3, 3), (10, 13), (27, 1), (43, 1), (60, 1)]), [], [], []⟩) (o := [.b false]) (l := [_]) (by kernel_rfl) (gc (q_leF h0) gn)
theorem srtLS_L1_p0 {l : List (List Int)} (h0 : (l.length : Int) ≤ (20 : Int)) : CodeOK Tryz.prog 1 (sub (cd Tryz.f148) [1, 1, 1, 1, 0, 0]) (srtLS_S1 l ) (.exit 2) (srtLS_S1 l ) := by
  exact CodeOK.fin (g := ⟨(rng [(3, 3), (10, 53)]), [], [], []⟩) (o := [.b false]) (l := [_]) (by kernel_rfl) (gc (q_ltF h0) gn)
theorem srtL_stb (l : List (List Int)) (hu : uni 4 l) (hn : l.length < 20) : FMM Tryz.prog 148 [.own 0, .p (intP (l.length : Int)), .fn 106 [] []] [some (.row 61 l.length (l.flatten.map intP))] (.tup []) [some (.row 61 (isort (ltK 1) l).length ((isort (ltK 1) l).flatten.map intP))] := 
  srtLS_p0 (LoopOK.exit (srtLS_L0_p0 (by omega)) (by simp)) hu (by omega) (LoopOK.exit (srtLS_L1_p0 (by omega)) (by simp))
theorem srtLT_p0 {l : List (List Int)} (h0 : uni 4 l) (h1 : l.length < 20) : FMM Tryz.prog 105 [(.own 0), (.fn 106 [] [])] [some (.row 61 l.length (l.flatten.map intP))] (.tup []) [some (.row 61 ((isort (ltK 1) l).length) ((isort (ltK 1) l).flatten.map intP))] := by
  exact FMM.fin (k := 1) (g := ⟨[], [], [], []⟩) rfl Tryz.func105 rfl (o := [.c (.tup []) [(0, (.row 61 ((zK40 l).length) ((zK40 l).flatten.map intP)))]]) (l := [FC Tryz.prog 148 [(.own 0), (.p (intP (l.length : Int))), (.fn 106 [] [])] [(0, (.row 61 l.length (l.flatten.map intP)))] 1 (.tup []) [(0, (.row 61 ((zK40 l).length) ((zK40 l).flatten.map intP)))]]) (by kernel_rfl) (gc (FMM.fc (ids := [0]) (srtL_stb l h0 h1) (by kernel_rfl)) gn)
theorem srtL_ok (l : List (List Int)) (hu : uni 4 l) (hn : l.length < 20) : FMM Tryz.prog 105 [.own 0, .fn 106 [] []] [some (.row 61 l.length (l.flatten.map intP))] (.tup []) [some (.row 61 (isort (ltK 1) l).length ((isort (ltK 1) l).flatten.map intP))] := srtLT_p0 hu hn
theorem srtRc_p0 {a0 a1 b0 b1 r0 : Int} (er0 : r0 = (cmpI a1 b1)) {base : Nat} : FV Tryz.prog 158 [(.p (.agg [(intP a0), (intP a1)])), (.p (.agg [(intP b0), (intP b1)]))] base (.p (intP r0)) [] := by
  subst er0
  exact FV.fin Tryz.func158 rfl (o := [.c (.p (intP (cmpI a1 b1))) []]) (l := [FC Tryz.prog 97 [(.p (intP a1)), (.p (intP b1))] [] 2 (.p (intP (cmpI a1 b1))) []]) (by kernel_rfl) (gc (FV.fc (cmp_ok a1 b1) rfl) gn)
def srtRI_S0 (l : List (List Int)) (i : Nat) (Ln : Nat) (Lc : List PV) : St := ⟨fr 53 [(0, (.own 0)), (1, (.p (intP 0))), (2, (.p (intP (l.length : Int)))), (3, (.fn 158 [] [])), (8, (.p (intP (i : Int))))], [some (.row 155 Ln Lc)]⟩
theorem srtRI_p0 {l : List (List Int)} {i'0 : Nat} {L'1 : List (List Int)} (hl0 : LoopOK Tryz.prog 1 zK4c4 (srtRI_S0 l 1 l.length (l.flatten.map intP)) (.exit 0) (srtRI_S0 l i'0 L'1.length (L'1.flatten.map intP))) : FMM Tryz.prog 200 [(.own 0), (.p (intP 0)), (.p (intP (l.length : Int))), (.fn 158 [] [])] [some (.row 155 l.length (l.flatten.map intP))] (.tup []) [some (.row 155 L'1.length (L'1.flatten.map intP))] := by
  exact FMM.fin (k := 1) (g := ⟨[], [], [], []⟩) rfl Tryz.func200 rfl (o := [.k 3 ⟨(rng [(4, 4), (9, 44)]), [], [], []⟩ (.exit 0) (srtRI_S0 l i'0 L'1.length (L'1.flatten.map intP))]) (l := [_, inR (1 : Int)]) (by kernel_rfl) (gc hl0.code (gc (by unfold inR; omega) gn))
def srtRI_S1 (l : List (List Int)) (i : Nat) (j : Int) (Mn : Nat) (Mc : List PV) : St := ⟨fr 53 [(0, (.own 0)), (1, (.p (intP 0))), (2, (.p (intP (l.length : Int)))), (3, (.fn 158 [] [])), (8, (.p (intP (i : Int)))), (9, (.p (intP j))), (12, (.p (intP (i : Int)))), (13, (.p (intP (l.length : Int)))), (14, (.p (blP (decide ((i : Int) < (l.length : Int)))))), (17, (.p (intP (i : Int))))], [some (.row 155 Mn Mc)]⟩
theorem srtRI_L0_p0 {l : List (List Int)} {i : Nat} {L : List (List Int)} {j'100 : Int} {M'101 : List (List Int)} {i' : Nat} {L' : List (List Int)} (h0 : (i : Int) < (l.length : Int)) (hl1 : LoopOK Tryz.prog 1 zK4c1 (srtRI_S1 l i (i : Int) L.length (L.flatten.map intP)) (.exit 2) (srtRI_S1 l i j'100 M'101.length (M'101.flatten.map intP))) (h2 : inR (((i + 1) : Nat) : Int)) (ei' : i' = (i + 1)) (eL'n : L'.length = M'101.length) (eL'c : L'.flatten.map intP = (M'101.flatten.map intP)) : CodeOK Tryz.prog 1 zK4c4 (srtRI_S0 l i L.length (L.flatten.map intP)) .normal (srtRI_S0 l i' L'.length (L'.flatten.map intP)) := by
  subst ei'
  have raw : CodeOK Tryz.prog 1 zK4c4 (srtRI_S0 l i L.length (L.flatten.map intP)) .normal (srtRI_S0 l (i + 1) M'101.length (M'101.flatten.map intP)) := CodeOK.fin (g := ⟨(rng [(4, 4), (9, 44)]), [], [], []⟩) (o := [.b true, .k 5 ⟨(rng [(4, 4), (10, 2), (18, 35)]), [], [], []⟩ (.exit 2) (srtRI_S1 l i j'100 M'101.length (M'101.flatten.map intP))]) (l := [_, _, _]) (by kernel_rfl) (gc h2 (gc hl1.code (gc (q_lt h0) gn)))
  exact raw.cast (by rw [eL'n, eL'c])
theorem srtRI_L0_p1 {l : List (List Int)} {i : Nat} {L : List (List Int)} (h0 : (l.length : Int) ≤ (i : Int)) : CodeOK Tryz.prog 1 zK4c4 (srtRI_S0 l i L.length (L.flatten.map intP)) (.exit 0) (srtRI_S0 l i L.length (L.flatten.map intP)) := by
  exact CodeOK.fin (g := ⟨(rng [(4, 4), (9, 44)]), [], [], []⟩) (o := [.b false]) (l := [_]) (by kernel_rfl) (gc (q_ltF h0) gn)
theorem srtRI_L1_p0 {l : List (List Int)} {i : Nat} {j : Int} {M : List (List Int)} {y200 y201 y202 y203 j' : Int} {M' : List (List Int)} (h0 : (0 : Int) < j) (h1 : M[j.toNat]? = some [y200, y201]) (h2 : 0 ≤ j) (h3 : uni 2 M) (h4 : inR (j - (1 : Int))) (h5 : M[(j - (1 : Int)).toNat]? = some [y202, y203]) (h6 : 0 ≤ (j - (1 : Int))) (h7 : (cmpI y201 y203) < (0 : Int)) (h8 : [(intP y202), (intP y203)].length = 2 ∧ (j.toNat * 2) + 2 ≤ (M.flatten.map intP).length) (h9 : 0 ≤ (j - (1 : Int)) ∧ (j - (1 : Int)) < (M.length : Int)) (h10 : [(intP y200), (intP y201)].length = 2 ∧ ((j - (1 : Int)).toNat * 2) + 2 ≤ ((M.flatten.map intP).take (j.toNat * 2) ++ [(intP y202), (intP y203)] ++ (M.flatten.map intP).drop ((j.toNat * 2) + 2)).length) (ej' : j' = (j - (1 : Int))) (eM'n : M'.length = M.length) (eM'c : M'.flatten.map intP = (((M.flatten.map intP).take (j.toNat * 2) ++ [(intP y202), (intP y203)] ++ (M.flatten.map intP).drop ((j.toNat * 2) + 2)).take ((j - (1 : Int)).toNat * 2) ++ [(intP y200), (intP y201)] ++ ((M.flatten.map intP).take (j.toNat * 2) ++ [(intP y202), (intP y203)] ++ (M.flatten.map intP).drop ((j.toNat * 2) + 2)).drop (((j - (1 : Int)).toNat * 2) + 2))) : CodeOK Tryz.prog 1 zK4c1 (srtRI_S1 l i j M.length (M.flatten.map intP)) .normal (srtRI_S1 l i j' M'.length (M'.flatten.map intP)) := by
  subst ej'
  have raw : CodeOK Tryz.prog 1 zK4c1 (srtRI_S1 l i j M.length (M.flatten.map intP)) .normal (srtRI_S1 l i (j - (1 : Int)) M.length (((M.flatten.map intP).take (j.toNat * 2) ++ [(intP y202), (intP y203)] ++ (M.flatten.map intP).drop ((j.toNat * 2) + 2)).take ((j - (1 : Int)).toNat * 2) ++ [(intP y200), (intP y201)] ++ ((M.flatten.map intP).take (j.toNat * 2) ++ [(intP y202), (intP y203)] ++ (M.flatten.map intP).drop ((j.toNat * 2) + 2)).drop (((j - (1 : Int)).toNat * 2) + 2))) := CodeOK.fin (g := ⟨(rng [(4, 4), (10, 2), (18, 35)]), [], [], []⟩) (o := [.b true, .b true, .b true, .b true, .b true, .x (.agg [(intP y200), (intP y201)]), .b true, .b true, .b true, .b true, .b true, .x (.agg [(intP y202), (intP y203)]), .b true, .c (.p (intP (cmpI y201 y203))) [], .b true, .b true, .b true, .x (.agg [(intP y202), (intP y203)]), .x (.agg [(intP y200), (intP y201)])]) (l := [_, _, _, _, _, some (.agg (((M.flatten.map intP).drop (j.toNat * 2)).take 2) : PV) = some (.agg [(intP y200), (intP y201)]), _, _, some (.agg (((M.flatten.map intP).drop ((j - (1 : Int)).toNat * 2)).take 2) : PV) = some (.agg [(intP y202), (intP y203)]), _, _, _, _, _, _, _, FC Tryz.prog 158 [(.p (.agg [(intP y200), (intP y201)])), (.p (.agg [(intP y202), (intP y203)]))] [] 1 (.p (intP (cmpI y201 y203))) [], _, some (.agg (((M.flatten.map intP).drop ((j - (1 : Int)).toNat * 2)).take 2) : PV) = some (.agg [(intP y202), (intP y203)]), _, _, _, _, _, _, _, _, some (.agg (((M.flatten.map intP).drop (j.toNat * 2)).take 2) : PV) = some (.agg [(intP y200), (intP y201)]), _, _, _, _, _, _, _]) (by kernel_rfl) (gc h4 (gc h10 (gc h9 (gc h8 (gc (ix_own (i := j) h2 h1) (gc (fl_load (i := j.toNat) h3 h1) (gc (fl_le (i := j.toNat) h3 h1) (gc (ix_own (i := j) h2 h1) (gc (fl_load (i := (j - (1 : Int)).toNat) h3 h5) (gc (fl_le (i := (j - (1 : Int)).toNat) h3 h5) (gc (ix_own (i := (j - (1 : Int))) h6 h5) (gc h4 (gc h4 (gc (q_lt h7) (gc (q_lt h0) (gc (q_lt h0) (gc (FV.fc (srtRc_p0 rfl) rfl) (gc (q_lt h0) (gc (fl_load (i := (j - (1 : Int)).toNat) h3 h5) (gc (fl_le (i := (j - (1 : Int)).toNat) h3 h5) (gc (q_lt h0) (gc (ix_own (i := (j - (1 : Int))) h6 h5) (gc (q_lt h0) (gc h4 (gc (q_lt h0) (gc (q_lt h0) (gc (q_lt h0) (gc (fl_load (i := j.toNat) h3 h1) (gc (fl_le (i := j.toNat) h3 h1) (gc (q_lt h0) (gc (ix_own (i := j) h2 h1) (gc (q_lt h0) (gc (q_lt h0) (gc (q_lt h0) (gc (q_lt h0) gn)))))))))))))))))))))))))))))))))))
  exact raw.cast (by rw [eM'n, eM'c])
theorem srtRI_L1_p1 {l : List (List Int)} {i : Nat} {j : Int} {M : List (List Int)} {y200 y201 y202 y203 : Int} (h0 : (0 : Int) < j) (h1 : M[j.toNat]? = some [y200, y201]) (h2 : 0 ≤ j) (h3 : uni 2 M) (h4 : inR (j - (1 : Int))) (h5 : M[(j - (1 : Int)).toNat]? = some [y202, y203]) (h6 : 0 ≤ (j - (1 : Int))) (h7 : (0 : Int) ≤ (cmpI y201 y203)) : CodeOK Tryz.prog 1 zK4c1 (srtRI_S1 l i j M.length (M.flatten.map intP)) (.exit 2) (srtRI_S1 l i j M.length (M.flatten.map intP)) := by
  exact CodeOK.fin (g := ⟨(rng [(4, 4), (10, 2), (18, 35)]), [], [], []⟩) (o := [.b true, .b true, .b true, .b true, .b true, .x (.agg [(intP y200), (intP y201)]), .b true, .b true, .b true, .b true, .b true, .x (.agg [(intP y202), (intP y203)]), .b true, .c (.p (intP (cmpI y201 y203))) [], .b true, .b true, .b false]) (l := [_, _, _, FC Tryz.prog 158 [(.p (.agg [(intP y200), (intP y201)])), (.p (.agg [(intP y202), (intP y203)]))] [] 1 (.p (intP (cmpI y201 y203))) [], _, some (.agg (((M.flatten.map intP).drop ((j - (1 : Int)).toNat * 2)).take 2) : PV) = some (.agg [(intP y202), (intP y203)]), _, _, _, _, _, _, _, _, some (.agg (((M.flatten.map intP).drop (j.toNat * 2)).take 2) : PV) = some (.agg [(intP y200), (intP y201)]), _, _, _, _, _, _, _]) (by kernel_rfl) (gc (q_ltF h7) (gc (q_lt h0) (gc (q_lt h0) (gc (FV.fc (srtRc_p0 rfl) rfl) (gc (q_lt h0) (gc (fl_load (i := (j - (1 : Int)).toNat) h3 h5) (gc (fl_le (i := (j - (1 : Int)).toNat) h3 h5) (gc (q_lt h0) (gc (ix_own (i := (j - (1 : Int))) h6 h5) (gc (q_lt h0) (gc h4 (gc (q_lt h0) (gc (q_lt h0) (gc (q_lt h0) (gc (fl_load (i := j.toNat) h3 h1) (gc (fl_le (i := j.toNat) h3 h1) (gc (q_lt h0) (gc (ix_own (i := j) h2 h1) (gc (q_lt h0) (gc (q_lt h0) (gc (q_lt h0) (gc (q_lt h0) gn))))))))))))))))))))))
theorem srtRI_L1_p2 {l : List (List Int)} {i : Nat} {j : Int} {M : List (List Int)} (h0 : j ≤ (0 : Int)) : CodeOK Tryz.prog 1 zK4c1 (srtRI_S1 l i j M.length (M.flatten.map intP)) (.exit 2) (srtRI_S1 l i j M.length (M.flatten.map intP)) := by
  exact CodeOK.fin (g := ⟨(rng [(4, 4), (10, 2), (18, 35)]), [], [], []⟩) (o := [.b false, .b false, .b false, .b false, .b false, .b false, .b false, .b false, .b false, .b false, .b false, .b false, .b false]) (l := [_, _, _, _, _, _, _, _, _, _, _, _, _]) (by kernel_rfl) (gc (q_ltF h0) (gc (q_ltF h0) (gc (q_ltF h0) (gc (q_ltF h0) (gc (q_ltF h0) (gc (q_ltF h0) (gc (q_ltF h0) (gc (q_ltF h0) (gc (q_ltF h0) (gc (q_ltF h0) (gc (q_ltF h0) (gc (q_ltF h0) (gc (q_ltF h0) gn)))))))))))))
theorem srtR_in (l : List (List Int)) (i : Nat) (A R : List (List Int)) (hA : A.length < 1000) (hi : i = A.length) (x0 x1 : Int) (hu : uni 2 (A ++ [x0, x1] :: R)) : ∀ m, m ≤ A.length → (∀ t (h : t < A.length), m ≤ t → ltK 1 [x0, x1] A[t] = true) →
    LoopOK Tryz.prog 1 zK4c1 (srtRI_S1 l i (m : Int) (mv A [x0, x1] m R).length ((mv A [x0, x1] m R).flatten.map intP)) (.exit 2) (srtRI_S1 l i (insPos (ltK 1) [x0, x1] A : Int) (ins (ltK 1) A [x0, x1] ++ R).length ((ins (ltK 1) A [x0, x1] ++ R).flatten.map intP)) := by
  have huA : ∀ y ∈ A, y.length = 2 := fun y hy => hu y (List.mem_append_left _ hy)
  have huM : ∀ m, uni 2 (mv A [x0, x1] m R) := fun m y hy => by
    unfold mv at hy
    rcases List.mem_append.1 hy with h | h
    · exact huA y (List.mem_of_mem_take h)
    · rcases List.mem_cons.1 h with rfl | h
      · rfl
      · rcases List.mem_append.1 h with h | h
        · exact huA y (List.mem_of_mem_drop h)
        · exact hu y (List.mem_append_right _ (List.mem_cons_of_mem _ h))
  intro m
  induction m with
  | zero =>
    intro _ hlt
    have e := insPos_eq (ltK 1) [x0, x1] A 0 (Nat.zero_le _) hlt (.inl rfl)
    rw [← mv_ins, e]
    exact .exit (srtRI_L1_p2 (by simp)) (by simp)
  | succ m ih =>
    intro hm hlt
    have hy := List.getElem?_eq_getElem (show m < A.length by omega)
    generalize A[m] = y at hy
    obtain ⟨y0, y1, rfl⟩ := len2 (huA y (List.mem_of_getElem? hy))
    have e1 : ((m + 1 : Nat) : Int).toNat = m + 1 := by omega
    have e2 : (((m + 1 : Nat) : Int) - 1).toNat = m := by omega
    have hl := mv_length A [x0, x1] (m + 1) R hm
    have g1 : (mv A [x0, x1] (m + 1) R)[m + 1]? = some [x0, x1] := by rw [mv_get A _ _ R hm]; simp
    have g2 : (mv A [x0, x1] (m + 1) R)[m]? = some [y0, y1] := by rw [mv_get A _ _ R hm, if_pos (by omega)]; exact hy
    by_cases hc : cmpI x1 y1 < 0
    · have st := fl_store (k := 2) (i := m + 1) (x := [y0, y1]) (huM (m + 1)) (by omega) rfl
      have hs1 : uni 2 ((mv A [x0, x1] (m + 1) R).set (m + 1) [y0, y1]) := uni_set (huM _) rfl
      have st2 := fl_store (k := 2) (i := m) (x := [x0, x1]) hs1 (by rw [List.length_set]; omega) rfl
      have gm : ((mv A [x0, x1] (m + 1) R).set (m + 1) [y0, y1])[m]? = some [y0, y1] := by rw [List.getElem?_set, if_neg (by omega)]; exact g2
      have hsw := mv_swap A [x0, x1] (m + 1) R hm (by omega) [y0, y1] (by simpa using hy)
      rw [Nat.add_sub_cancel] at hsw
      simp only [List.map_cons, List.map_nil] at st st2
      refine .step (srtRI_L1_p0 (j := ((m + 1 : Nat) : Int)) (j' := (m : Int)) (M' := mv A [x0, x1] m R) (by omega) (by rw [e1]; exact g1) (by omega) (huM _) (by unfold inR; omega) (by rw [e2]; exact g2) (by omega) hc ⟨rfl, by rw [e1]; exact fl_le (huM _) g1⟩ ⟨by omega, by omega⟩ ⟨rfl, ?_⟩ (by omega) (by rw [hl, mv_length A _ _ R (by omega)]) ?_) (ih (by omega) fun t ht h1 => ?_)
      · rw [e1, e2, st]; exact fl_le hs1 gm
      · rw [e1, e2, st, st2, hsw]
      · by_cases h2 : t = m
        · subst h2
          have h3 := hy
          rw [List.getElem?_eq_getElem ht, Option.some.injEq] at h3
          rw [h3]
          simpa [ltK] using hc
        · exact hlt t ht (by omega)
    · have e := insPos_eq (ltK 1) [x0, x1] A (m + 1) hm hlt (.inr ⟨[y0, y1], by simpa using hy, by simpa [ltK] using hc⟩)
      rw [← mv_ins, e]
      exact .exit (srtRI_L1_p1 (by omega) (by rw [e1]; exact g1) (by omega) (huM _) (by unfold inR; omega) (by rw [e2]; exact g2) (by omega) (by omega)) (by simp)
theorem srtR_ins (l : List (List Int)) (hu : uni 2 l) (hn : l.length < 1000) : FMM Tryz.prog 200 [.own 0, .p (intP 0), .p (intP (l.length : Int)), .fn 158 [] []] [some (.row 155 l.length (l.flatten.map intP))] (.tup []) [some (.row 155 (isort (ltK 1) l).length ((isort (ltK 1) l).flatten.map intP))] := by
  have hui : ∀ i, uni 2 (isort (ltK 1) (l.take i)) := fun i y hy => hu y (List.mem_of_mem_take ((isort_mem (ltK 1) _ y).1 hy))
  have key : ∀ d i, i + d = l.length → 1 ≤ i → LoopOK Tryz.prog 1 zK4c4 (srtRI_S0 l i (isort (ltK 1) (l.take i) ++ l.drop i).length ((isort (ltK 1) (l.take i) ++ l.drop i).flatten.map intP)) (.exit 0) (srtRI_S0 l l.length (isort (ltK 1) l).length ((isort (ltK 1) l).flatten.map intP)) := by
    intro d
    induction d with
    | zero =>
      intro i hi _
      obtain rfl : i = l.length := by omega
      rw [List.take_length, List.drop_length, List.append_nil]
      exact .exit (srtRI_L0_p1 (by omega)) (by simp)
    | succ d ih =>
      intro i hi h1
      have hlt : i < l.length := by omega
      have hx := hu l[i] (List.getElem_mem hlt)
      generalize hxx : l[i] = x at hx
      obtain ⟨x0, x1, rfl⟩ := len2 hx
      have hAl : (isort (ltK 1) (l.take i)).length = i := by rw [isort_length, List.length_take]; omega
      have hdr : l.drop i = [x0, x1] :: l.drop (i + 1) := by rw [List.drop_eq_getElem_cons hlt, hxx]
      have hin := srtR_in l i (isort (ltK 1) (l.take i)) (l.drop (i + 1)) (by omega) hAl.symm x0 x1 (by
        intro y hy
        rcases List.mem_append.1 hy with h | h
        · exact hui i y h
        · rcases List.mem_cons.1 h with rfl | h
          · rfl
          · exact hu y (List.mem_of_mem_drop h)) i (by omega) (fun t ht h2 => by omega)
      have hmv : mv (isort (ltK 1) (l.take i)) [x0, x1] i (l.drop (i + 1)) = isort (ltK 1) (l.take i) ++ l.drop i := by
        have := mv_end (isort (ltK 1) (l.take i)) [x0, x1] (l.drop (i + 1))
        rw [hAl] at this; rw [this, hdr]
      have hsn := isort_snoc (ltK 1) l i hlt
      rw [hxx] at hsn
      rw [hmv, ← hsn] at hin
      exact .step (srtRI_L0_p0 (by omega) hin (by unfold inR; omega) rfl rfl rfl) (ih (i + 1) (by omega) (by omega))
  rcases Nat.eq_zero_or_pos l.length with h0 | hp
  · have : l = [] := List.eq_nil_of_length_eq_zero h0
    subst this
    exact srtRI_p0 (LoopOK.exit (srtRI_L0_p1 (l := []) (L := []) (i := 1) (by simp)) (by simp))
  · have := key (l.length - 1) 1 (by omega) (by omega)
    have e1 : isort (ltK 1) (l.take 1) ++ l.drop 1 = l := by
      cases l with
      | nil => simp at hp
      | cons x r => simp [isort, ins, insPos]
    rw [e1] at this
    exact srtRI_p0 this
def srtRS_S0 (l : List (List Int))  : St := ⟨fr 63 [(0, (.own 0)), (1, (.p (intP (l.length : Int)))), (2, (.fn 158 [] [])), (6, (.p (intP 20))), (7, (.p (intP 0))), (8, (.p (intP 20)))], [some (.row 155 l.length (l.flatten.map intP))]⟩
def srtRS_S1 (l : List (List Int))  : St := ⟨fr 63 [(0, (.own 0)), (1, (.p (intP (l.length : Int)))), (2, (.fn 158 [] [])), (6, (.p (intP 20))), (7, (.p (intP 0))), (8, (.p (intP 20)))], [some (.row 155 ((isort (ltK 1) l).length) ((isort (ltK 1) l).flatten.map intP))]⟩
theorem srtRS_p0 {l : List (List Int)} (hl0 : LoopOK Tryz.prog 1 (sub (cd Tryz.f188) [1, 1, 0, 0, 0]) (srtRS_S0 l ) (.exit 0) (srtRS_S0 l )) (h1 : uni 2 l) (h2 : l.length < 1000) (hl3 : LoopOK Tryz.prog 1 (sub (cd Tryz.f188) [1, 1, 1, 1, 0, 0]) (srtRS_S1 l ) (.exit 2) (srtRS_S1 l )) : FMM Tryz.prog 188 [(.own 0), (.p (intP (l.length : Int))), (.fn 158 [] [])] [some (.row 155 l.length (l.flatten.map intP))] (.tup []) [some (.row 155 ((isort (ltK 1) l).length) ((isort (ltK 1) l).flatten.map intP))] := by
  exact FMM.fin (k := 1) (g := ⟨[], [], [], []⟩) rfl Tryz.func188 rfl (o := [.k 6 ⟨(rng [(3, 3), (10, 13), (27, 1), (43, 1), (60, 1)]), [], [], []⟩ (.exit 0) (srtRS_S0 l ), .c (.tup []) [(0, (.row 155 ((zK40 l).length) ((zK40 l).flatten.map intP)))], .k 1 ⟨(rng [(3, 3), (10, 53)]), [], [], []⟩ (.exit 2) (srtRS_S1 l )]) (l := [_, FC Tryz.prog 200 [(.own 0), (.p (intP 0)), (.p (intP (l.length : Int))), (.fn 158 [] [])] [(0, (.row 155 l.length (l.flatten.map intP)))] 1 (.tup []) [(0, (.row 155 ((zK40 l).length) ((zK40 l).flatten.map intP)))], _]) (by kernel_rfl) (gc hl3.code (gc (FMM.fc (ids := [0]) (srtR_ins l h1 h2) (by kernel_rfl)) (gc hl0.code gn)))
theorem srtRS_L0_p0 {l : List (List Int)} (h0 : (l.length : Int) < (20 : Int)) : CodeOK Tryz.prog 1 (sub (cd Tryz.f188) [1, 1, 0, 0, 0]) (srtRS_S0 l ) (.exit 0) (srtRS_S0 l ) := by
  exact CodeOK.fin (g := ⟨(rng [(3, 3), (10, 13), (27, 1), (43, 1), (60, 1)]), [], [], []⟩) (o := [.b false]) (l := [_]) (by kernel_rfl) (gc (q_leF h0) gn)
theorem srtRS_L1_p0 {l : List (List Int)} (h0 : (l.length : Int) ≤ (20 : Int)) : CodeOK Tryz.prog 1 (sub (cd Tryz.f188) [1, 1, 1, 1, 0, 0]) (srtRS_S1 l ) (.exit 2) (srtRS_S1 l ) := by
  exact CodeOK.fin (g := ⟨(rng [(3, 3), (10, 53)]), [], [], []⟩) (o := [.b false]) (l := [_]) (by kernel_rfl) (gc (q_ltF h0) gn)
theorem srtR_stb (l : List (List Int)) (hu : uni 2 l) (hn : l.length < 20) : FMM Tryz.prog 188 [.own 0, .p (intP (l.length : Int)), .fn 158 [] []] [some (.row 155 l.length (l.flatten.map intP))] (.tup []) [some (.row 155 (isort (ltK 1) l).length ((isort (ltK 1) l).flatten.map intP))] := 
  srtRS_p0 (LoopOK.exit (srtRS_L0_p0 (by omega)) (by simp)) hu (by omega) (LoopOK.exit (srtRS_L1_p0 (by omega)) (by simp))
theorem srtRT_p0 {l : List (List Int)} (h0 : uni 2 l) (h1 : l.length < 20) : FMM Tryz.prog 157 [(.own 0), (.fn 158 [] [])] [some (.row 155 l.length (l.flatten.map intP))] (.tup []) [some (.row 155 ((isort (ltK 1) l).length) ((isort (ltK 1) l).flatten.map intP))] := by
  exact FMM.fin (k := 1) (g := ⟨[], [], [], []⟩) rfl Tryz.func157 rfl (o := [.c (.tup []) [(0, (.row 155 ((zK40 l).length) ((zK40 l).flatten.map intP)))]]) (l := [FC Tryz.prog 188 [(.own 0), (.p (intP (l.length : Int))), (.fn 158 [] [])] [(0, (.row 155 l.length (l.flatten.map intP)))] 1 (.tup []) [(0, (.row 155 ((zK40 l).length) ((zK40 l).flatten.map intP)))]]) (by kernel_rfl) (gc (FMM.fc (ids := [0]) (srtR_stb l h0 h1) (by kernel_rfl)) gn)
theorem srtR_ok (l : List (List Int)) (hu : uni 2 l) (hn : l.length < 20) : FMM Tryz.prog 157 [.own 0, .fn 158 [] []] [some (.row 155 l.length (l.flatten.map intP))] (.tup []) [some (.row 155 (isort (ltK 1) l).length ((isort (ltK 1) l).flatten.map intP))] := srtRT_p0 hu hn
theorem srtNc_p0 {a0 a1 a2 a3 b0 b1 b2 b3 r0 : Int} (er0 : r0 = (cmpI a1 b1)) {base : Nat} : FV Tryz.prog 100 [(.p (.agg [(intP a0), (intP a1), (intP a2), (intP a3)])), (.p (.agg [(intP b0), (intP b1), (intP b2), (intP b3)]))] base (.p (intP r0)) [] := by
  subst er0
  exact FV.fin Tryz.func100 rfl (o := [.c (.p (intP (cmpI a1 b1))) []]) (l := [FC Tryz.prog 97 [(.p (intP a1)), (.p (intP b1))] [] 2 (.p (intP (cmpI a1 b1))) []]) (by kernel_rfl) (gc (FV.fc (cmp_ok a1 b1) rfl) gn)
def srtNI_S0 (l : List (List Int)) (i : Nat) (Ln : Nat) (Lc : List PV) : St := ⟨fr 53 [(0, (.own 0)), (1, (.p (intP 0))), (2, (.p (intP (l.length : Int)))), (3, (.fn 100 [] [])), (8, (.p (intP (i : Int))))], [some (.row 40 Ln Lc)]⟩
theorem srtNI_p0 {l : List (List Int)} {i'0 : Nat} {L'1 : List (List Int)} (hl0 : LoopOK Tryz.prog 1 zK4c5 (srtNI_S0 l 1 l.length (l.flatten.map intP)) (.exit 0) (srtNI_S0 l i'0 L'1.length (L'1.flatten.map intP))) : FMM Tryz.prog 183 [(.own 0), (.p (intP 0)), (.p (intP (l.length : Int))), (.fn 100 [] [])] [some (.row 40 l.length (l.flatten.map intP))] (.tup []) [some (.row 40 L'1.length (L'1.flatten.map intP))] := by
  exact FMM.fin (k := 1) (g := ⟨[], [], [], []⟩) rfl Tryz.func183 rfl (o := [.k 3 ⟨(rng [(4, 4), (9, 44)]), [], [], []⟩ (.exit 0) (srtNI_S0 l i'0 L'1.length (L'1.flatten.map intP))]) (l := [_, inR (1 : Int)]) (by kernel_rfl) (gc hl0.code (gc (by unfold inR; omega) gn))
def srtNI_S1 (l : List (List Int)) (i : Nat) (j : Int) (Mn : Nat) (Mc : List PV) : St := ⟨fr 53 [(0, (.own 0)), (1, (.p (intP 0))), (2, (.p (intP (l.length : Int)))), (3, (.fn 100 [] [])), (8, (.p (intP (i : Int)))), (9, (.p (intP j))), (12, (.p (intP (i : Int)))), (13, (.p (intP (l.length : Int)))), (14, (.p (blP (decide ((i : Int) < (l.length : Int)))))), (17, (.p (intP (i : Int))))], [some (.row 40 Mn Mc)]⟩
theorem srtNI_L0_p0 {l : List (List Int)} {i : Nat} {L : List (List Int)} {j'100 : Int} {M'101 : List (List Int)} {i' : Nat} {L' : List (List Int)} (h0 : (i : Int) < (l.length : Int)) (hl1 : LoopOK Tryz.prog 1 zK4c2 (srtNI_S1 l i (i : Int) L.length (L.flatten.map intP)) (.exit 2) (srtNI_S1 l i j'100 M'101.length (M'101.flatten.map intP))) (h2 : inR (((i + 1) : Nat) : Int)) (ei' : i' = (i + 1)) (eL'n : L'.length = M'101.length) (eL'c : L'.flatten.map intP = (M'101.flatten.map intP)) : CodeOK Tryz.prog 1 zK4c5 (srtNI_S0 l i L.length (L.flatten.map intP)) .normal (srtNI_S0 l i' L'.length (L'.flatten.map intP)) := by
  subst ei'
  have raw : CodeOK Tryz.prog 1 zK4c5 (srtNI_S0 l i L.length (L.flatten.map intP)) .normal (srtNI_S0 l (i + 1) M'101.length (M'101.flatten.map intP)) := CodeOK.fin (g := ⟨(rng [(4, 4), (9, 44)]), [], [], []⟩) (o := [.b true, .k 5 ⟨(rng [(4, 4), (10, 2), (18, 35)]), [], [], []⟩ (.exit 2) (srtNI_S1 l i j'100 M'101.length (M'101.flatten.map intP))]) (l := [_, _, _]) (by kernel_rfl) (gc h2 (gc hl1.code (gc (q_lt h0) gn)))
  exact raw.cast (by rw [eL'n, eL'c])
theorem srtNI_L0_p1 {l : List (List Int)} {i : Nat} {L : List (List Int)} (h0 : (l.length : Int) ≤ (i : Int)) : CodeOK Tryz.prog 1 zK4c5 (srtNI_S0 l i L.length (L.flatten.map intP)) (.exit 0) (srtNI_S0 l i L.length (L.flatten.map intP)) := by
  exact CodeOK.fin (g := ⟨(rng [(4, 4), (9, 44)]), [], [], []⟩) (o := [.b false]) (l := [_]) (by kernel_rfl) (gc (q_ltF h0) gn)
theorem srtNI_L1_p0 {l : List (List Int)} {i : Nat} {j : Int} {M : List (List Int)} {y200 y201 y202 y203 y204 y205 y206 y207 j' : Int} {M' : List (List Int)} (h0 : (0 : Int) < j) (h1 : M[j.toNat]? = some [y200, y201, y202, y203]) (h2 : 0 ≤ j) (h3 : uni 4 M) (h4 : inR (j - (1 : Int))) (h5 : M[(j - (1 : Int)).toNat]? = some [y204, y205, y206, y207]) (h6 : 0 ≤ (j - (1 : Int))) (h7 : (cmpI y201 y205) < (0 : Int)) (h8 : [(intP y204), (intP y205), (intP y206), (intP y207)].length = 4 ∧ (j.toNat * 4) + 4 ≤ (M.flatten.map intP).length) (h9 : 0 ≤ (j - (1 : Int)) ∧ (j - (1 : Int)) < (M.length : Int)) (h10 : [(intP y200), (intP y201), (intP y202), (intP y203)].length = 4 ∧ ((j - (1 : Int)).toNat * 4) + 4 ≤ ((M.flatten.map intP).take (j.toNat * 4) ++ [(intP y204), (intP y205), (intP y206), (intP y207)] ++ (M.flatten.map intP).drop ((j.toNat * 4) + 4)).length) (ej' : j' = (j - (1 : Int))) (eM'n : M'.length = M.length) (eM'c : M'.flatten.map intP = (((M.flatten.map intP).take (j.toNat * 4) ++ [(intP y204), (intP y205), (intP y206), (intP y207)] ++ (M.flatten.map intP).drop ((j.toNat * 4) + 4)).take ((j - (1 : Int)).toNat * 4) ++ [(intP y200), (intP y201), (intP y202), (intP y203)] ++ ((M.flatten.map intP).take (j.toNat * 4) ++ [(intP y204), (intP y205), (intP y206), (intP y207)] ++ (M.flatten.map intP).drop ((j.toNat * 4) + 4)).drop (((j - (1 : Int)).toNat * 4) + 4))) : CodeOK Tryz.prog 1 zK4c2 (srtNI_S1 l i j M.length (M.flatten.map intP)) .normal (srtNI_S1 l i j' M'.length (M'.flatten.map intP)) := by
  subst ej'
  have raw : CodeOK Tryz.prog 1 zK4c2 (srtNI_S1 l i j M.length (M.flatten.map intP)) .normal (srtNI_S1 l i (j - (1 : Int)) M.length (((M.flatten.map intP).take (j.toNat * 4) ++ [(intP y204), (intP y205), (intP y206), (intP y207)] ++ (M.flatten.map intP).drop ((j.toNat * 4) + 4)).take ((j - (1 : Int)).toNat * 4) ++ [(intP y200), (intP y201), (intP y202), (intP y203)] ++ ((M.flatten.map intP).take (j.toNat * 4) ++ [(intP y204), (intP y205), (intP y206), (intP y207)] ++ (M.flatten.map intP).drop ((j.toNat * 4) + 4)).drop (((j - (1 : Int)).toNat * 4) + 4))) := CodeOK.fin (g := ⟨(rng [(4, 4), (10, 2), (18, 35)]), [], [], []⟩) (o := [.b true, .b true, .b true, .b true, .b true, .x (.agg [(intP y200), (intP y201), (intP y202), (intP y203)]), .b true, .b true, .b true, .b true, .b true, .x (.agg [(intP y204), (intP y205), (intP y206), (intP y207)]), .b true, .c (.p (intP (cmpI y201 y205))) [], .b true, .b true, .b true, .x (.agg [(intP y204), (intP y205), (intP y206), (intP y207)]), .x (.agg [(intP y200), (intP y201), (intP y202), (intP y203)])]) (l := [_, _, _, _, _, some (.agg (((M.flatten.map intP).drop (j.toNat * 4)).take 4) : PV) = some (.agg [(intP y200), (intP y201), (intP y202), (intP y203)]), _, _, some (.agg (((M.flatten.map intP).drop ((j - (1 : Int)).toNat * 4)).take 4) : PV) = some (.agg [(intP y204), (intP y205), (intP y206), (intP y207)]), _, _, _, _, _, _, _, FC Tryz.prog 100 [(.p (.agg [(intP y200), (intP y201), (intP y202), (intP y203)])), (.p (.agg [(intP y204), (intP y205), (intP y206), (intP y207)]))] [] 1 (.p (intP (cmpI y201 y205))) [], _, some (.agg (((M.flatten.map intP).drop ((j - (1 : Int)).toNat * 4)).take 4) : PV) = some (.agg [(intP y204), (intP y205), (intP y206), (intP y207)]), _, _, _, _, _, _, _, _, some (.agg (((M.flatten.map intP).drop (j.toNat * 4)).take 4) : PV) = some (.agg [(intP y200), (intP y201), (intP y202), (intP y203)]), _, _, _, _, _, _, _]) (by kernel_rfl) (gc h4 (gc h10 (gc h9 (gc h8 (gc (ix_own (i := j) h2 h1) (gc (fl_load (i := j.toNat) h3 h1) (gc (fl_le (i := j.toNat) h3 h1) (gc (ix_own (i := j) h2 h1) (gc (fl_load (i := (j - (1 : Int)).toNat) h3 h5) (gc (fl_le (i := (j - (1 : Int)).toNat) h3 h5) (gc (ix_own (i := (j - (1 : Int))) h6 h5) (gc h4 (gc h4 (gc (q_lt h7) (gc (q_lt h0) (gc (q_lt h0) (gc (FV.fc (srtNc_p0 rfl) rfl) (gc (q_lt h0) (gc (fl_load (i := (j - (1 : Int)).toNat) h3 h5) (gc (fl_le (i := (j - (1 : Int)).toNat) h3 h5) (gc (q_lt h0) (gc (ix_own (i := (j - (1 : Int))) h6 h5) (gc (q_lt h0) (gc h4 (gc (q_lt h0) (gc (q_lt h0) (gc (q_lt h0) (gc (fl_load (i := j.toNat) h3 h1) (gc (fl_le (i := j.toNat) h3 h1) (gc (q_lt h0) (gc (ix_own (i := j) h2 h1) (gc (q_lt h0) (gc (q_lt h0) (gc (q_lt h0) (gc (q_lt h0) gn)))))))))))))))))))))))))))))))))))
  exact raw.cast (by rw [eM'n, eM'c])
theorem srtNI_L1_p1 {l : List (List Int)} {i : Nat} {j : Int} {M : List (List Int)} {y200 y201 y202 y203 y204 y205 y206 y207 : Int} (h0 : (0 : Int) < j) (h1 : M[j.toNat]? = some [y200, y201, y202, y203]) (h2 : 0 ≤ j) (h3 : uni 4 M) (h4 : inR (j - (1 : Int))) (h5 : M[(j - (1 : Int)).toNat]? = some [y204, y205, y206, y207]) (h6 : 0 ≤ (j - (1 : Int))) (h7 : (0 : Int) ≤ (cmpI y201 y205)) : CodeOK Tryz.prog 1 zK4c2 (srtNI_S1 l i j M.length (M.flatten.map intP)) (.exit 2) (srtNI_S1 l i j M.length (M.flatten.map intP)) := by
  exact CodeOK.fin (g := ⟨(rng [(4, 4), (10, 2), (18, 35)]), [], [], []⟩) (o := [.b true, .b true, .b true, .b true, .b true, .x (.agg [(intP y200), (intP y201), (intP y202), (intP y203)]), .b true, .b true, .b true, .b true, .b true, .x (.agg [(intP y204), (intP y205), (intP y206), (intP y207)]), .b true, .c (.p (intP (cmpI y201 y205))) [], .b true, .b true, .b false]) (l := [_, _, _, FC Tryz.prog 100 [(.p (.agg [(intP y200), (intP y201), (intP y202), (intP y203)])), (.p (.agg [(intP y204), (intP y205), (intP y206), (intP y207)]))] [] 1 (.p (intP (cmpI y201 y205))) [], _, some (.agg (((M.flatten.map intP).drop ((j - (1 : Int)).toNat * 4)).take 4) : PV) = some (.agg [(intP y204), (intP y205), (intP y206), (intP y207)]), _, _, _, _, _, _, _, _, some (.agg (((M.flatten.map intP).drop (j.toNat * 4)).take 4) : PV) = some (.agg [(intP y200), (intP y201), (intP y202), (intP y203)]), _, _, _, _, _, _, _]) (by kernel_rfl) (gc (q_ltF h7) (gc (q_lt h0) (gc (q_lt h0) (gc (FV.fc (srtNc_p0 rfl) rfl) (gc (q_lt h0) (gc (fl_load (i := (j - (1 : Int)).toNat) h3 h5) (gc (fl_le (i := (j - (1 : Int)).toNat) h3 h5) (gc (q_lt h0) (gc (ix_own (i := (j - (1 : Int))) h6 h5) (gc (q_lt h0) (gc h4 (gc (q_lt h0) (gc (q_lt h0) (gc (q_lt h0) (gc (fl_load (i := j.toNat) h3 h1) (gc (fl_le (i := j.toNat) h3 h1) (gc (q_lt h0) (gc (ix_own (i := j) h2 h1) (gc (q_lt h0) (gc (q_lt h0) (gc (q_lt h0) (gc (q_lt h0) gn))))))))))))))))))))))
theorem srtNI_L1_p2 {l : List (List Int)} {i : Nat} {j : Int} {M : List (List Int)} (h0 : j ≤ (0 : Int)) : CodeOK Tryz.prog 1 zK4c2 (srtNI_S1 l i j M.length (M.flatten.map intP)) (.exit 2) (srtNI_S1 l i j M.length (M.flatten.map intP)) := by
  exact CodeOK.fin (g := ⟨(rng [(4, 4), (10, 2), (18, 35)]), [], [], []⟩) (o := [.b false, .b false, .b false, .b false, .b false, .b false, .b false, .b false, .b false, .b false, .b false, .b false, .b false]) (l := [_, _, _, _, _, _, _, _, _, _, _, _, _]) (by kernel_rfl) (gc (q_ltF h0) (gc (q_ltF h0) (gc (q_ltF h0) (gc (q_ltF h0) (gc (q_ltF h0) (gc (q_ltF h0) (gc (q_ltF h0) (gc (q_ltF h0) (gc (q_ltF h0) (gc (q_ltF h0) (gc (q_ltF h0) (gc (q_ltF h0) (gc (q_ltF h0) gn)))))))))))))
theorem srtN_in (l : List (List Int)) (i : Nat) (A R : List (List Int)) (hA : A.length < 1000) (hi : i = A.length) (x0 x1 x2 x3 : Int) (hu : uni 4 (A ++ [x0, x1, x2, x3] :: R)) : ∀ m, m ≤ A.length → (∀ t (h : t < A.length), m ≤ t → ltK 1 [x0, x1, x2, x3] A[t] = true) →
    LoopOK Tryz.prog 1 zK4c2 (srtNI_S1 l i (m : Int) (mv A [x0, x1, x2, x3] m R).length ((mv A [x0, x1, x2, x3] m R).flatten.map intP)) (.exit 2) (srtNI_S1 l i (insPos (ltK 1) [x0, x1, x2, x3] A : Int) (ins (ltK 1) A [x0, x1, x2, x3] ++ R).length ((ins (ltK 1) A [x0, x1, x2, x3] ++ R).flatten.map intP)) := by
  have huA : ∀ y ∈ A, y.length = 4 := fun y hy => hu y (List.mem_append_left _ hy)
  have huM : ∀ m, uni 4 (mv A [x0, x1, x2, x3] m R) := fun m y hy => by
    unfold mv at hy
    rcases List.mem_append.1 hy with h | h
    · exact huA y (List.mem_of_mem_take h)
    · rcases List.mem_cons.1 h with rfl | h
      · rfl
      · rcases List.mem_append.1 h with h | h
        · exact huA y (List.mem_of_mem_drop h)
        · exact hu y (List.mem_append_right _ (List.mem_cons_of_mem _ h))
  intro m
  induction m with
  | zero =>
    intro _ hlt
    have e := insPos_eq (ltK 1) [x0, x1, x2, x3] A 0 (Nat.zero_le _) hlt (.inl rfl)
    rw [← mv_ins, e]
    exact .exit (srtNI_L1_p2 (by simp)) (by simp)
  | succ m ih =>
    intro hm hlt
    have hy := List.getElem?_eq_getElem (show m < A.length by omega)
    generalize A[m] = y at hy
    obtain ⟨y0, y1, y2, y3, rfl⟩ := len4 (huA y (List.mem_of_getElem? hy))
    have e1 : ((m + 1 : Nat) : Int).toNat = m + 1 := by omega
    have e2 : (((m + 1 : Nat) : Int) - 1).toNat = m := by omega
    have hl := mv_length A [x0, x1, x2, x3] (m + 1) R hm
    have g1 : (mv A [x0, x1, x2, x3] (m + 1) R)[m + 1]? = some [x0, x1, x2, x3] := by rw [mv_get A _ _ R hm]; simp
    have g2 : (mv A [x0, x1, x2, x3] (m + 1) R)[m]? = some [y0, y1, y2, y3] := by rw [mv_get A _ _ R hm, if_pos (by omega)]; exact hy
    by_cases hc : cmpI x1 y1 < 0
    · have st := fl_store (k := 4) (i := m + 1) (x := [y0, y1, y2, y3]) (huM (m + 1)) (by omega) rfl
      have hs1 : uni 4 ((mv A [x0, x1, x2, x3] (m + 1) R).set (m + 1) [y0, y1, y2, y3]) := uni_set (huM _) rfl
      have st2 := fl_store (k := 4) (i := m) (x := [x0, x1, x2, x3]) hs1 (by rw [List.length_set]; omega) rfl
      have gm : ((mv A [x0, x1, x2, x3] (m + 1) R).set (m + 1) [y0, y1, y2, y3])[m]? = some [y0, y1, y2, y3] := by rw [List.getElem?_set, if_neg (by omega)]; exact g2
      have hsw := mv_swap A [x0, x1, x2, x3] (m + 1) R hm (by omega) [y0, y1, y2, y3] (by simpa using hy)
      rw [Nat.add_sub_cancel] at hsw
      simp only [List.map_cons, List.map_nil] at st st2
      refine .step (srtNI_L1_p0 (j := ((m + 1 : Nat) : Int)) (j' := (m : Int)) (M' := mv A [x0, x1, x2, x3] m R) (by omega) (by rw [e1]; exact g1) (by omega) (huM _) (by unfold inR; omega) (by rw [e2]; exact g2) (by omega) hc ⟨rfl, by rw [e1]; exact fl_le (huM _) g1⟩ ⟨by omega, by omega⟩ ⟨rfl, ?_⟩ (by omega) (by rw [hl, mv_length A _ _ R (by omega)]) ?_) (ih (by omega) fun t ht h1 => ?_)
      · rw [e1, e2, st]; exact fl_le hs1 gm
      · rw [e1, e2, st, st2, hsw]
      · by_cases h2 : t = m
        · subst h2
          have h3 := hy
          rw [List.getElem?_eq_getElem ht, Option.some.injEq] at h3
          rw [h3]
          simpa [ltK] using hc
        · exact hlt t ht (by omega)
    · have e := insPos_eq (ltK 1) [x0, x1, x2, x3] A (m + 1) hm hlt (.inr ⟨[y0, y1, y2, y3], by simpa using hy, by simpa [ltK] using hc⟩)
      rw [← mv_ins, e]
      exact .exit (srtNI_L1_p1 (by omega) (by rw [e1]; exact g1) (by omega) (huM _) (by unfold inR; omega) (by rw [e2]; exact g2) (by omega) (by omega)) (by simp)
theorem srtN_ins (l : List (List Int)) (hu : uni 4 l) (hn : l.length < 1000) : FMM Tryz.prog 183 [.own 0, .p (intP 0), .p (intP (l.length : Int)), .fn 100 [] []] [some (.row 40 l.length (l.flatten.map intP))] (.tup []) [some (.row 40 (isort (ltK 1) l).length ((isort (ltK 1) l).flatten.map intP))] := by
  have hui : ∀ i, uni 4 (isort (ltK 1) (l.take i)) := fun i y hy => hu y (List.mem_of_mem_take ((isort_mem (ltK 1) _ y).1 hy))
  have key : ∀ d i, i + d = l.length → 1 ≤ i → LoopOK Tryz.prog 1 zK4c5 (srtNI_S0 l i (isort (ltK 1) (l.take i) ++ l.drop i).length ((isort (ltK 1) (l.take i) ++ l.drop i).flatten.map intP)) (.exit 0) (srtNI_S0 l l.length (isort (ltK 1) l).length ((isort (ltK 1) l).flatten.map intP)) := by
    intro d
    induction d with
    | zero =>
      intro i hi _
      obtain rfl : i = l.length := by omega
      rw [List.take_length, List.drop_length, List.append_nil]
      exact .exit (srtNI_L0_p1 (by omega)) (by simp)
    | succ d ih =>
      intro i hi h1
      have hlt : i < l.length := by omega
      have hx := hu l[i] (List.getElem_mem hlt)
      generalize hxx : l[i] = x at hx
      obtain ⟨x0, x1, x2, x3, rfl⟩ := len4 hx
      have hAl : (isort (ltK 1) (l.take i)).length = i := by rw [isort_length, List.length_take]; omega
      have hdr : l.drop i = [x0, x1, x2, x3] :: l.drop (i + 1) := by rw [List.drop_eq_getElem_cons hlt, hxx]
      have hin := srtN_in l i (isort (ltK 1) (l.take i)) (l.drop (i + 1)) (by omega) hAl.symm x0 x1 x2 x3 (by
        intro y hy
        rcases List.mem_append.1 hy with h | h
        · exact hui i y h
        · rcases List.mem_cons.1 h with rfl | h
          · rfl
          · exact hu y (List.mem_of_mem_drop h)) i (by omega) (fun t ht h2 => by omega)
      have hmv : mv (isort (ltK 1) (l.take i)) [x0, x1, x2, x3] i (l.drop (i + 1)) = isort (ltK 1) (l.take i) ++ l.drop i := by
        have := mv_end (isort (ltK 1) (l.take i)) [x0, x1, x2, x3] (l.drop (i + 1))
        rw [hAl] at this; rw [this, hdr]
      have hsn := isort_snoc (ltK 1) l i hlt
      rw [hxx] at hsn
      rw [hmv, ← hsn] at hin
      exact .step (srtNI_L0_p0 (by omega) hin (by unfold inR; omega) rfl rfl rfl) (ih (i + 1) (by omega) (by omega))
  rcases Nat.eq_zero_or_pos l.length with h0 | hp
  · have : l = [] := List.eq_nil_of_length_eq_zero h0
    subst this
    exact srtNI_p0 (LoopOK.exit (srtNI_L0_p1 (l := []) (L := []) (i := 1) (by simp)) (by simp))
  · have := key (l.length - 1) 1 (by omega) (by omega)
    have e1 : isort (ltK 1) (l.take 1) ++ l.drop 1 = l := by
      cases l with
      | nil => simp at hp
      | cons x r => simp [isort, ins, insPos]
    rw [e1] at this
    exact srtNI_p0 this
def srtNS_S0 (l : List (List Int))  : St := ⟨fr 63 [(0, (.own 0)), (1, (.p (intP (l.length : Int)))), (2, (.fn 100 [] [])), (6, (.p (intP 20))), (7, (.p (intP 0))), (8, (.p (intP 20)))], [some (.row 40 l.length (l.flatten.map intP))]⟩
def srtNS_S1 (l : List (List Int))  : St := ⟨fr 63 [(0, (.own 0)), (1, (.p (intP (l.length : Int)))), (2, (.fn 100 [] [])), (6, (.p (intP 20))), (7, (.p (intP 0))), (8, (.p (intP 20)))], [some (.row 40 ((isort (ltK 1) l).length) ((isort (ltK 1) l).flatten.map intP))]⟩
theorem srtNS_p0 {l : List (List Int)} (hl0 : LoopOK Tryz.prog 1 (sub (cd Tryz.f146) [1, 1, 0, 0, 0]) (srtNS_S0 l ) (.exit 0) (srtNS_S0 l )) (h1 : uni 4 l) (h2 : l.length < 1000) (hl3 : LoopOK Tryz.prog 1 (sub (cd Tryz.f146) [1, 1, 1, 1, 0, 0]) (srtNS_S1 l ) (.exit 2) (srtNS_S1 l )) : FMM Tryz.prog 146 [(.own 0), (.p (intP (l.length : Int))), (.fn 100 [] [])] [some (.row 40 l.length (l.flatten.map intP))] (.tup []) [some (.row 40 ((isort (ltK 1) l).length) ((isort (ltK 1) l).flatten.map intP))] := by
  exact FMM.fin (k := 1) (g := ⟨[], [], [], []⟩) rfl Tryz.func146 rfl (o := [.k 6 ⟨(rng [(3, 3), (10, 13), (27, 1), (43, 1), (60, 1)]), [], [], []⟩ (.exit 0) (srtNS_S0 l ), .c (.tup []) [(0, (.row 40 ((zK40 l).length) ((zK40 l).flatten.map intP)))], .k 1 ⟨(rng [(3, 3), (10, 53)]), [], [], []⟩ (.exit 2) (srtNS_S1 l )]) (l := [_, FC Tryz.prog 183 [(.own 0), (.p (intP 0)), (.p (intP (l.length : Int))), (.fn 100 [] [])] [(0, (.row 40 l.length (l.flatten.map intP)))] 1 (.tup []) [(0, (.row 40 ((zK40 l).length) ((zK40 l).flatten.map intP)))], _]) (by kernel_rfl) (gc hl3.code (gc (FMM.fc (ids := [0]) (srtN_ins l h1 h2) (by kernel_rfl)) (gc hl0.code gn)))
theorem srtNS_L0_p0 {l : List (List Int)} (h0 : (l.length : Int) < (20 : Int)) : CodeOK Tryz.prog 1 (sub (cd Tryz.f146) [1, 1, 0, 0, 0]) (srtNS_S0 l ) (.exit 0) (srtNS_S0 l ) := by
  exact CodeOK.fin (g := ⟨(rng [(3, 3), (10, 13), (27, 1), (43, 1), (60, 1)]), [], [], []⟩) (o := [.b false]) (l := [_]) (by kernel_rfl) (gc (q_leF h0) gn)
theorem srtNS_L1_p0 {l : List (List Int)} (h0 : (l.length : Int) ≤ (20 : Int)) : CodeOK Tryz.prog 1 (sub (cd Tryz.f146) [1, 1, 1, 1, 0, 0]) (srtNS_S1 l ) (.exit 2) (srtNS_S1 l ) := by
  exact CodeOK.fin (g := ⟨(rng [(3, 3), (10, 53)]), [], [], []⟩) (o := [.b false]) (l := [_]) (by kernel_rfl) (gc (q_ltF h0) gn)
theorem srtN_stb (l : List (List Int)) (hu : uni 4 l) (hn : l.length < 20) : FMM Tryz.prog 146 [.own 0, .p (intP (l.length : Int)), .fn 100 [] []] [some (.row 40 l.length (l.flatten.map intP))] (.tup []) [some (.row 40 (isort (ltK 1) l).length ((isort (ltK 1) l).flatten.map intP))] := 
  srtNS_p0 (LoopOK.exit (srtNS_L0_p0 (by omega)) (by simp)) hu (by omega) (LoopOK.exit (srtNS_L1_p0 (by omega)) (by simp))
theorem srtNT_p0 {l : List (List Int)} (h0 : uni 4 l) (h1 : l.length < 20) : FMM Tryz.prog 99 [(.own 0), (.fn 100 [] [])] [some (.row 40 l.length (l.flatten.map intP))] (.tup []) [some (.row 40 ((isort (ltK 1) l).length) ((isort (ltK 1) l).flatten.map intP))] := by
  exact FMM.fin (k := 1) (g := ⟨[], [], [], []⟩) rfl Tryz.func99 rfl (o := [.c (.tup []) [(0, (.row 40 ((zK40 l).length) ((zK40 l).flatten.map intP)))]]) (l := [FC Tryz.prog 146 [(.own 0), (.p (intP (l.length : Int))), (.fn 100 [] [])] [(0, (.row 40 l.length (l.flatten.map intP)))] 1 (.tup []) [(0, (.row 40 ((zK40 l).length) ((zK40 l).flatten.map intP)))]]) (by kernel_rfl) (gc (FMM.fc (ids := [0]) (srtN_stb l h0 h1) (by kernel_rfl)) gn)
theorem srtN_ok (l : List (List Int)) (hu : uni 4 l) (hn : l.length < 20) : FMM Tryz.prog 99 [.own 0, .fn 100 [] []] [some (.row 40 l.length (l.flatten.map intP))] (.tup []) [some (.row 40 (isort (ltK 1) l).length ((isort (ltK 1) l).flatten.map intP))] := srtNT_p0 hu hn
end
end KV
end Go.Proofs
section
namespace Go.Proofs
namespace KL

theorem clashLoop_iff : ∀ (r : List Int) (v : Int) (k : Nat), (v :: r).Pairwise (· ≤ ·) →
    ((∃ f, clashLoop (some v) (v + k) r = some f ∧ f ≤ 61) ↔ (v + k + (r.count v : Nat) ≤ 61 ∧ ∀ q ∈ r, v < q → v + k + (r.count v : Nat) ≤ q) ∧ ∀ p ∈ r, v < p → p + (r.count p : Nat) ≤ 61 ∧ ∀ q ∈ r, p < q → p + (r.count p : Nat) ≤ q)
  | [], v, k, _ => by simp [clashLoop]
  | x :: r, v, k, hs => by
    obtain ⟨h1, h2⟩ := List.pairwise_cons.1 hs
    have hx : v ≤ x := h1 x (by simp)
    obtain ⟨h3, h4⟩ := List.pairwise_cons.1 h2
    have hr : ∀ q ∈ r, x ≤ q := h3
    unfold clashLoop
    by_cases he : v = x
    · subst he
      rw [if_pos rfl]
      have ih := clashLoop_iff r v (k + 1) h2
      have e : v + ((k + 1 : Nat) : Int) = v + k + 1 := by omega
      rw [e] at ih
      rw [ih]
      have c1 : (((v :: r).count v : Nat) : Int) = (r.count v : Nat) + 1 := by rw [List.count_cons_self]; omega
      rw [c1]
      have c2 : ∀ p, v < p → (v :: r).count p = r.count p := fun p hp => List.count_cons_of_ne (by omega)
      constructor
      · rintro ⟨⟨q1, q2⟩, q3⟩
        refine ⟨⟨by omega, fun q hq hv => ?_⟩, fun p hp hv => ?_⟩
        · rcases List.mem_cons.1 hq with rfl | hq
          · omega
          · have := q2 q hq hv; omega
        · rcases List.mem_cons.1 hp with rfl | hp
          · omega
          · rw [c2 p hv]
            obtain ⟨q4, q5⟩ := q3 p hp hv
            refine ⟨q4, fun q hq hv2 => ?_⟩
            rcases List.mem_cons.1 hq with rfl | hq
            · omega
            · exact q5 q hq hv2
      · rintro ⟨⟨q1, q2⟩, q3⟩
        refine ⟨⟨by omega, fun q hq hv => ?_⟩, fun p hp hv => ?_⟩
        · have := q2 q (List.mem_cons_of_mem _ hq) hv; omega
        · obtain ⟨q4, q5⟩ := q3 p (List.mem_cons_of_mem _ hp) hv
          rw [c2 p hv] at q4 q5
          exact ⟨q4, fun q hq hv2 => q5 q (List.mem_cons_of_mem _ hq) hv2⟩
    · have hlt : v < x := by omega
      rw [if_neg (by simpa using he)]
      have c0 : (x :: r).count v = 0 := List.count_eq_zero.2 fun hm => by
        rcases List.mem_cons.1 hm with h | h
        · omega
        · have := hr v h; omega
      rw [c0]
      by_cases hc : x < v + k
      · rw [if_pos hc]
        constructor
        · rintro ⟨f, h, _⟩; cases h
        · rintro ⟨⟨_, q2⟩, _⟩
          have := q2 x (by simp) hlt
          simp at this
          omega
      · rw [if_neg hc]
        have ih := clashLoop_iff r x 1 h2
        have e : x + ((1 : Nat) : Int) = x + 1 := rfl
        rw [e] at ih
        rw [ih]
        have c1 : (((x :: r).count x : Nat) : Int) = (r.count x : Nat) + 1 := by rw [List.count_cons_self]; omega
        have c2 : ∀ p, x < p → (x :: r).count p = r.count p := fun p hp => List.count_cons_of_ne (by omega)
        constructor
        · rintro ⟨⟨q1, q2⟩, q3⟩
          refine ⟨⟨by simp; omega, fun q hq hv => ?_⟩, fun p hp hv => ?_⟩
          · rcases List.mem_cons.1 hq with rfl | hq
            · simp; omega
            · have := hr q hq; simp; omega
          · have hpx : p = x ∨ (p ∈ r ∧ x < p) := by
              rcases List.mem_cons.1 hp with h | h
              · exact .inl h
              · have := hr p h
                by_cases hpx : p = x
                · exact .inl hpx
                · exact .inr ⟨h, by omega⟩
            rcases hpx with rfl | ⟨hp, hxp⟩
            · rw [c1]
              refine ⟨by omega, fun q hq hv2 => ?_⟩
              rcases List.mem_cons.1 hq with rfl | hq
              · omega
              · have := q2 q hq hv2; omega
            · rw [c2 p hxp]
              obtain ⟨q4, q5⟩ := q3 p hp hxp
              refine ⟨q4, fun q hq hv2 => ?_⟩
              rcases List.mem_cons.1 hq with rfl | hq
              · omega
              · exact q5 q hq hv2
        · rintro ⟨⟨q1, q2⟩, q3⟩
          obtain ⟨q4, q5⟩ := q3 x (by simp) hlt
          rw [c1] at q4 q5
          refine ⟨⟨by omega, fun q hq hv => ?_⟩, fun p hp hv => ?_⟩
          · have := q5 q (List.mem_cons_of_mem _ hq) hv; omega
          · obtain ⟨q6, q7⟩ := q3 p (List.mem_cons_of_mem _ hp) (by omega)
            rw [c2 p hv] at q6 q7
            exact ⟨q6, fun q hq hv2 => q7 q (List.mem_cons_of_mem _ hq) hv2⟩

def NoClash (race : List Int) : Prop := ∀ p ∈ race, p ≠ 0 → p + (race.count p : Nat) ≤ 61 ∧ ∀ q ∈ race, p < q → p + (race.count p : Nat) ≤ q

theorem leB_trans : ∀ a b c : Int, leB a b = true → leB b c = true → leB a c = true := fun a b c h1 h2 => by simp [leB] at *; omega
theorem leB_total : ∀ a b : Int, (leB a b || leB b a) = true := fun a b => by simp [leB]; omega

theorem clash_iff (race : List Int) (h0 : ∀ x ∈ race, 0 ≤ x) : clashR race = false ↔ NoClash race := by
  have hs : (placesOf race).Pairwise (· ≤ ·) := by
    have := List.pairwise_mergeSort leB_trans leB_total (race.filter fun x => !nz x)
    exact this.imp (fun h => by simpa [leB] using h)
  have hm : ∀ x, x ∈ placesOf race ↔ x ∈ race ∧ x ≠ 0 := fun x => by
    unfold placesOf; rw [List.mem_mergeSort, List.mem_filter]; simp [nz]
  have hc : ∀ x, x ≠ 0 → (placesOf race).count x = race.count x := fun x hx => by
    unfold placesOf
    rw [(List.mergeSort_perm _ _).count_eq, List.count_filter]
    simp [nz, hx]
  have key : clashR race = false ↔ ∃ f, clashLoop none 1 (placesOf race) = some f ∧ f ≤ 61 := by
    unfold clashR
    cases h : clashLoop none 1 (placesOf race) with
    | none => simp
    | some f => simp
  rw [key]
  have fin : ∀ l : List Int, (∀ x, x ∈ l ↔ x ∈ race ∧ x ≠ 0) → (∀ x, x ≠ 0 → l.count x = race.count x) → ((∀ p ∈ l, p + (l.count p : Nat) ≤ 61 ∧ ∀ q ∈ l, p < q → p + (l.count p : Nat) ≤ q) ↔ NoClash race) := fun l hm hc => by
    constructor
    · intro h p hp hp0
      obtain ⟨h1, h2⟩ := h p ((hm p).2 ⟨hp, hp0⟩)
      rw [hc p hp0] at h1 h2
      exact ⟨h1, fun q hq hlt => h2 q ((hm q).2 ⟨hq, by have := h0 p hp; omega⟩) hlt⟩
    · intro h p hp
      obtain ⟨h1, h2⟩ := (hm p).1 hp
      rw [hc p h2]
      obtain ⟨h3, h4⟩ := h p h1 h2
      exact ⟨h3, fun q hq hlt => h4 q ((hm q).1 hq).1 hlt⟩
  rw [← fin _ hm hc]
  cases hl : placesOf race with
  | nil => simp [clashLoop]
  | cons x r =>
    rw [hl] at hs hm
    have hx1 : 1 ≤ x := by
      obtain ⟨h1, h2⟩ := (hm x).1 (by simp)
      have := h0 x h1; omega
    unfold clashLoop
    rw [if_neg (by simp), if_neg (by omega)]
    have := clashLoop_iff r x 1 hs
    rw [show x + ((1 : Nat) : Int) = x + 1 from rfl] at this
    rw [this]
    obtain ⟨h3, _⟩ := List.pairwise_cons.1 hs
    have c1 : (((x :: r).count x : Nat) : Int) = (r.count x : Nat) + 1 := by rw [List.count_cons_self]; omega
    have c2 : ∀ p, x < p → (x :: r).count p = r.count p := fun p hp => List.count_cons_of_ne (by omega)
    constructor
    · rintro ⟨⟨q1, q2⟩, q3⟩ p hp
      have hpx : p = x ∨ (p ∈ r ∧ x < p) := by
        rcases List.mem_cons.1 hp with h | h
        · exact .inl h
        · have := h3 p h
          by_cases hpx : p = x
          · exact .inl hpx
          · exact .inr ⟨h, by omega⟩
      rcases hpx with rfl | ⟨hp, hxp⟩
      · rw [c1]
        refine ⟨by omega, fun q hq hv2 => ?_⟩
        rcases List.mem_cons.1 hq with rfl | hq
        · omega
        · have := q2 q hq hv2; omega
      · rw [c2 p hxp]
        obtain ⟨q4, q5⟩ := q3 p hp hxp
        refine ⟨q4, fun q hq hv2 => ?_⟩
        rcases List.mem_cons.1 hq with rfl | hq
        · omega
        · exact q5 q hq hv2
    · intro h
      obtain ⟨q4, q5⟩ := h x (by simp)
      rw [c1] at q4 q5
      refine ⟨⟨by omega, fun q hq hv => ?_⟩, fun p hp hv => ?_⟩
      · have := q5 q (List.mem_cons_of_mem _ hq) hv; omega
      · obtain ⟨q6, q7⟩ := h p (List.mem_cons_of_mem _ hp)
        rw [c2 p hv] at q6 q7
        exact ⟨q6, fun q hq hv2 => q7 q (List.mem_cons_of_mem _ hq) hv2⟩

theorem valid_take {c : Cup} (hV : Valid c) (n : Nat) : Valid { c with done := c.done.take n } :=
  ⟨hV.sk1, hV.sk2, hV.ra1, hV.ra2, hV.be1, hV.be2, hV.pt1, hV.pt2, by have := hV.dn; simp; omega, fun r hr => hV.len r (List.mem_of_mem_take hr), hV.pts, fun r hr => hV.rows r (List.mem_of_mem_take hr), hV.falls, by
    have := hV.clash
    rw [List.any_eq_false] at this ⊢
    exact fun r hr => this r (List.mem_of_mem_take hr)⟩
def race2 (n o : Nat) (p : Int) (s : Nat) (w : Int) : List Int := ((List.replicate n (0 : Int)).set o p).set s w
theorem race2_length (n o : Nat) (p : Int) (s : Nat) (w : Int) : (race2 n o p s w).length = n := by simp [race2]
theorem race2_mem {n o s : Nat} {p w x : Int} (h : x ∈ race2 n o p s w) : x = 0 ∨ x = p ∨ x = w := by
  unfold race2 at h
  rcases List.mem_or_eq_of_mem_set h with h | h
  · rcases List.mem_or_eq_of_mem_set h with h | h
    · rw [List.mem_replicate] at h; exact .inl h.2
    · exact .inr (.inl h)
  · exact .inr (.inr h)
theorem count_set_le {l : List Int} {i : Nat} {x y : Int} : (l.set i x).count y ≤ l.count y + if x = y then 1 else 0 := by
  by_cases hi : i < l.length
  · rw [List.count_set hi]
    split <;> split <;> simp_all <;> omega
  · rw [List.set_eq_of_length_le (by omega)]; omega
theorem race2_noClash {n o s : Nat} {p w : Int} (hp : 0 ≤ p ∧ p ≤ 60) (hw : 0 ≤ w ∧ w ≤ 60) (hne : p = 0 ∨ w = 0 ∨ p ≠ w) : NoClash (race2 n o p s w) := by
  have hcnt : ∀ x, x ≠ 0 → (race2 n o p s w).count x ≤ 1 := fun x hx => by
    have h1 := count_set_le (l := (List.replicate n (0 : Int)).set o p) (i := s) (x := w) (y := x)
    have h2 := count_set_le (l := List.replicate n (0 : Int)) (i := o) (x := p) (y := x)
    have h3 : (List.replicate n (0 : Int)).count x = 0 := by rw [List.count_replicate]; simp; omega
    unfold race2
    by_cases e1 : w = x <;> by_cases e2 : p = x <;> simp [e1, e2] at h1 h2 ⊢ <;> omega
  intro x hx h0
  have := hcnt x h0
  refine ⟨?_, fun q hq hlt => by omega⟩
  rcases race2_mem hx with h | h | h <;> omega
theorem valid_race {c : Cup} (hV : Valid c) (hd : (c.done.length : Int) < c.ra) {race : List Int} (hl : (race.length : Int) = c.sk) (h0 : ∀ x ∈ race, 0 ≤ x ∧ x ≤ 60) (hn : NoClash race) : Valid (withC c [race]) := by
  refine valid_with hV (by simp; omega) (fun r hr => ?_) (fun r hr => ?_) ?_
  · rw [List.mem_singleton] at hr; subst hr; exact hl
  · rw [List.mem_singleton] at hr; subst hr; exact h0
  · simp [(clash_iff race fun x hx => (h0 x hx).1).2 hn]
theorem valid_race2 {c : Cup} (hV : Valid c) (hd : (c.done.length : Int) < c.ra) {o s : Nat} {p w : Int} (hp : 0 ≤ p ∧ p ≤ 60) (hw : 0 ≤ w ∧ w ≤ 60) (hne : p = 0 ∨ w = 0 ∨ p ≠ w) : Valid (withC c [race2 c.sk.toNat o p s w]) :=
  valid_race hV hd (by rw [race2_length]; have := hV.sk1; omega) (fun x hx => by rcases race2_mem hx with h | h | h <;> omega) (race2_noClash hp hw hne)
end KL
end Go.Proofs
end
namespace Go.Proofs
namespace KV
section
open KL
noncomputable abbrev zK5c0 : Code := sub (cd Tryz.f127) [1, 1, 0, 1, 0, 0]
noncomputable abbrev zK5c1 : Code := sub (cd Tryz.f73) [1, 0, 1, 1, 1, 1, 0, 1, 0, 0]
noncomputable abbrev zK5c2 : Code := sub (cd Tryz.f127) [1, 1, 0, 1, 0, 0, 1, 1, 0, 0, 1, 1, 1, 0, 0, 0]
noncomputable abbrev zK5c3 : Code := sub (cd Tryz.f55) [1, 1, 1, 1, 1, 0, 1, 0, 0]
noncomputable abbrev zK5c4 : Code := sub (cd Tryz.f34) [1, 1, 1, 1, 0, 1, 0, 0]
def dec_S0 (c : Cup) (i : Nat) (r : Int) (f : Int) : St := ⟨fr 58 [(2, (.p (intP r))), (3, (.p (intP 0))), (4, (.p (intP (checkP c)))), (5, (.ptr 0 0)), (6, (.p (intP f))), (23, (.p (intP (((c.done.length + 1) : Nat) : Int)))), (24, (.p (intP (i : Int))))], [some (.box 120 [(.p (intP c.sk)), (.p (intP c.ra)), (.p (intP c.be)), (.p (intsP c.pts)), (.p (rowsP c.done))])]⟩
theorem dec_p1 {c : Cup} {i'0 : Nat} {r'1 f'2 : Int} (h0 : KL.Small c) (h1 : (checkP c) = (0 : Int)) (h2 : inR (((c.done.length + 1) : Nat) : Int)) (hl3 : LoopOK Tryz.prog 0 zK5c1 (dec_S0 c 0 (0 : Int) (-1 : Int)) (.exit 0) (dec_S0 c i'0 r'1 f'2)) (h4 : f'2 < (0 : Int)) {base : Nat} : FV Tryz.prog 73 [(.p (cupP c))] base (.tup [(.p (intP 0)), (.p (intP 0)), (.p (intP 6))]) [] := by
  exact FV.frz (FMM.fin (k := 0) (g := ⟨[], [], [], []⟩) rfl Tryz.func73 rfl (o := [.c (.tup [(.p (cupP c)), (.p (intP (checkP c)))]) [], .b false, .k 7 ⟨(rng [(0, 2), (7, 16), (25, 29)]), [1], [], []⟩ (.exit 0) (dec_S0 c i'0 r'1 f'2), .b true]) (l := [_, _, _, _, FC Tryz.prog 88 [(.p (cupP c))] [] 1 (.tup [(.p (cupP c)), (.p (intP (checkP c)))]) []]) (by kernel_rfl) (gc (q_lt h4) (gc hl3.code (gc h2 (gc (q_neF h1) (gc (FV.fc (asked_ok c h0) rfl) gn)))))) (by kernel_rfl)
theorem dec_p2 {c : Cup} {i'0 : Nat} {r'1 f'2 : Int} (h0 : KL.Small c) (h1 : (checkP c) = (0 : Int)) (h2 : inR (((c.done.length + 1) : Nat) : Int)) (hl3 : LoopOK Tryz.prog 0 zK5c1 (dec_S0 c 0 (0 : Int) (-1 : Int)) (.exit 0) (dec_S0 c i'0 r'1 f'2)) (h4 : (0 : Int) ≤ f'2) {base : Nat} : FV Tryz.prog 73 [(.p (cupP c))] base (.tup [(.p (intP r'1)), (.p (intP f'2)), (.p (intP 0))]) [] := by
  exact FV.frz (FMM.fin (k := 0) (g := ⟨[], [], [], []⟩) rfl Tryz.func73 rfl (o := [.c (.tup [(.p (cupP c)), (.p (intP (checkP c)))]) [], .b false, .k 7 ⟨(rng [(0, 2), (7, 16), (25, 29)]), [1], [], []⟩ (.exit 0) (dec_S0 c i'0 r'1 f'2), .b false]) (l := [_, _, _, _, FC Tryz.prog 88 [(.p (cupP c))] [] 1 (.tup [(.p (cupP c)), (.p (intP (checkP c)))]) []]) (by kernel_rfl) (gc (q_ltF h4) (gc hl3.code (gc h2 (gc (q_neF h1) (gc (FV.fc (asked_ok c h0) rfl) gn)))))) (by kernel_rfl)
abbrev zK50 (c : Cup) (l100 : List (List Int)) := whoM (sureM (⟨c.sk, c.ra, c.be, c.pts, l100⟩ : Cup)) (⟨c.sk, c.ra, c.be, c.pts, l100⟩ : Cup).sk.toNat
abbrev zK51 (c : Cup) (l100 : List (List Int)) := whoM (canM (⟨c.sk, c.ra, c.be, c.pts, l100⟩ : Cup)) (⟨c.sk, c.ra, c.be, c.pts, l100⟩ : Cup).sk.toNat
theorem dec_L0_p0 {c : Cup} {i : Nat} {r f : Int} {l100 : List (List Int)} {x101 r' : Int} (h0 : (i : Int) < (((c.done.length + 1) : Nat) : Int)) (h1 : 0 ≤ (0 : Int) ∧ (0 : Int) ≤ (i : Int) ∧ (i : Int) ≤ (c.done.length : Int) ∧ (c.done.map intsP).length = c.done.length * 1) (h2 : (i - 0) = l100.length) (h3 : ((c.done.map intsP).take (i * 1)) = l100.map intsP) (h4 : KL.Valid (⟨c.sk, c.ra, c.be, c.pts, l100⟩ : Cup)) (h5 : (0 : Int) < (((whoM (sureM (⟨c.sk, c.ra, c.be, c.pts, l100⟩ : Cup)) (⟨c.sk, c.ra, c.be, c.pts, l100⟩ : Cup).sk.toNat).length : Nat) : Int)) (h6 : (((whoM (canM (⟨c.sk, c.ra, c.be, c.pts, l100⟩ : Cup)) (⟨c.sk, c.ra, c.be, c.pts, l100⟩ : Cup).sk.toNat).length : Nat) : Int) = (1 : Int)) (h7 : (whoM (sureM (⟨c.sk, c.ra, c.be, c.pts, l100⟩ : Cup)) (⟨c.sk, c.ra, c.be, c.pts, l100⟩ : Cup).sk.toNat)[0]? = some x101) (er' : r' = (i : Int)) : CodeOK Tryz.prog 0 zK5c1 (dec_S0 c i r f) (.exit 0) (dec_S0 c i r' x101) := by
  subst er'
  exact CodeOK.fin (g := ⟨(rng [(0, 2), (7, 16), (25, 29)]), [0], [], []⟩) (o := [.b true, .c (.agg [(.fn 137 [] [])]) [], .c (.p (intsP (zK51 c l100))) [], .c (.agg [(.fn 149 [] [])]) [], .c (.p (intsP (zK50 c l100))) [], .b true, .b true, .b true, .b true, .b true, .x (intP x101)]) (l := [((zK50 c l100).map intP)[0]? = some (intP x101), 0 ≤ (0 : Int) ∧ (0 : Int) < (((zK50 c l100).length : Nat) : Int) ∧ 0 < ((zK50 c l100).map intP).length, _, _, _, _, _, FC Tryz.prog 110 [(.agg [(.fn 149 [] [])]), (.p (.agg [(intP c.sk), (intP c.ra), (intP c.be), (intsP c.pts), (.sl (i - 0) ((c.done.map intsP).take (i * 1)))]))] [] 14 (.p (intsP (zK50 c l100))) [], FC Tryz.prog 111 [] [] 10 (.agg [(.fn 149 [] [])]) [], FC Tryz.prog 110 [(.agg [(.fn 137 [] [])]), (.p (.agg [(intP c.sk), (intP c.ra), (intP c.be), (intsP c.pts), (.sl (i - 0) ((c.done.map intsP).take (i * 1)))]))] [] 6 (.p (intsP (zK51 c l100))) [], FC Tryz.prog 109 [] [] 2 (.agg [(.fn 137 [] [])]) [], _, _]) (by kernel_rfl) (gc (at_map (i := 0) h7) (gc (ix_map (i := (0 : Int)) (by first | decide | simp) h7) (gc (q_eq h6) (gc (q_lt h5) (gc (q_lt h5) (gc (q_lt h5) (gc (q_lt h5) (gc (FV.fc (by rw [show ((.sl (i - 0) ((c.done.map intsP).take (i * 1))) : PV) = rowsP l100 from sl_cast h2 h3]; exact (sureA_ok (⟨c.sk, c.ra, c.be, c.pts, l100⟩ : Cup) h4)) rfl) (gc (FV.fc sureQ_p0 (by kernel_rfl)) (gc (FV.fc (by rw [show ((.sl (i - 0) ((c.done.map intsP).take (i * 1))) : PV) = rowsP l100 from sl_cast h2 h3]; exact (canA_ok (⟨c.sk, c.ra, c.be, c.pts, l100⟩ : Cup) h4)) rfl) (gc (FV.fc canQ_p0 (by kernel_rfl)) (gc h1 (gc (q_lt h0) gn)))))))))))))
theorem dec_L0_p1 {c : Cup} {i : Nat} {r f : Int} {l100 : List (List Int)} {i' : Nat} (h0 : (i : Int) < (((c.done.length + 1) : Nat) : Int)) (h1 : 0 ≤ (0 : Int) ∧ (0 : Int) ≤ (i : Int) ∧ (i : Int) ≤ (c.done.length : Int) ∧ (c.done.map intsP).length = c.done.length * 1) (h2 : (i - 0) = l100.length) (h3 : ((c.done.map intsP).take (i * 1)) = l100.map intsP) (h4 : KL.Valid (⟨c.sk, c.ra, c.be, c.pts, l100⟩ : Cup)) (h5 : (0 : Int) < (((whoM (sureM (⟨c.sk, c.ra, c.be, c.pts, l100⟩ : Cup)) (⟨c.sk, c.ra, c.be, c.pts, l100⟩ : Cup).sk.toNat).length : Nat) : Int)) (h6 : (((whoM (canM (⟨c.sk, c.ra, c.be, c.pts, l100⟩ : Cup)) (⟨c.sk, c.ra, c.be, c.pts, l100⟩ : Cup).sk.toNat).length : Nat) : Int) ≠ (1 : Int)) (h7 : inR (((i + 1) : Nat) : Int)) (ei' : i' = (i + 1)) : CodeOK Tryz.prog 0 zK5c1 (dec_S0 c i r f) .normal (dec_S0 c i' r f) := by
  subst ei'
  exact CodeOK.fin (g := ⟨(rng [(0, 2), (7, 16), (25, 29)]), [0], [], []⟩) (o := [.b true, .c (.agg [(.fn 137 [] [])]) [], .c (.p (intsP (zK51 c l100))) [], .c (.agg [(.fn 149 [] [])]) [], .c (.p (intsP (zK50 c l100))) [], .b true, .b true, .b true, .b true, .b false]) (l := [_, _, _, _, _, _, FC Tryz.prog 110 [(.agg [(.fn 149 [] [])]), (.p (.agg [(intP c.sk), (intP c.ra), (intP c.be), (intsP c.pts), (.sl (i - 0) ((c.done.map intsP).take (i * 1)))]))] [] 14 (.p (intsP (zK50 c l100))) [], FC Tryz.prog 111 [] [] 10 (.agg [(.fn 149 [] [])]) [], FC Tryz.prog 110 [(.agg [(.fn 137 [] [])]), (.p (.agg [(intP c.sk), (intP c.ra), (intP c.be), (intsP c.pts), (.sl (i - 0) ((c.done.map intsP).take (i * 1)))]))] [] 6 (.p (intsP (zK51 c l100))) [], FC Tryz.prog 109 [] [] 2 (.agg [(.fn 137 [] [])]) [], _, _]) (by kernel_rfl) (gc h7 (gc (q_ne h6) (gc (q_lt h5) (gc (q_lt h5) (gc (q_lt h5) (gc (q_lt h5) (gc (FV.fc (by rw [show ((.sl (i - 0) ((c.done.map intsP).take (i * 1))) : PV) = rowsP l100 from sl_cast h2 h3]; exact (sureA_ok (⟨c.sk, c.ra, c.be, c.pts, l100⟩ : Cup) h4)) rfl) (gc (FV.fc sureQ_p0 (by kernel_rfl)) (gc (FV.fc (by rw [show ((.sl (i - 0) ((c.done.map intsP).take (i * 1))) : PV) = rowsP l100 from sl_cast h2 h3]; exact (canA_ok (⟨c.sk, c.ra, c.be, c.pts, l100⟩ : Cup) h4)) rfl) (gc (FV.fc canQ_p0 (by kernel_rfl)) (gc h1 (gc (q_lt h0) gn))))))))))))
theorem dec_L0_p2 {c : Cup} {i : Nat} {r f : Int} {l100 : List (List Int)} {i' : Nat} (h0 : (i : Int) < (((c.done.length + 1) : Nat) : Int)) (h1 : 0 ≤ (0 : Int) ∧ (0 : Int) ≤ (i : Int) ∧ (i : Int) ≤ (c.done.length : Int) ∧ (c.done.map intsP).length = c.done.length * 1) (h2 : (i - 0) = l100.length) (h3 : ((c.done.map intsP).take (i * 1)) = l100.map intsP) (h4 : KL.Valid (⟨c.sk, c.ra, c.be, c.pts, l100⟩ : Cup)) (h5 : (((whoM (sureM (⟨c.sk, c.ra, c.be, c.pts, l100⟩ : Cup)) (⟨c.sk, c.ra, c.be, c.pts, l100⟩ : Cup).sk.toNat).length : Nat) : Int) ≤ (0 : Int)) (h6 : inR (((i + 1) : Nat) : Int)) (ei' : i' = (i + 1)) : CodeOK Tryz.prog 0 zK5c1 (dec_S0 c i r f) .normal (dec_S0 c i' r f) := by
  subst ei'
  exact CodeOK.fin (g := ⟨(rng [(0, 2), (7, 16), (25, 29)]), [0], [], []⟩) (o := [.b true, .c (.agg [(.fn 137 [] [])]) [], .c (.p (intsP (zK51 c l100))) [], .c (.agg [(.fn 149 [] [])]) [], .c (.p (intsP (zK50 c l100))) [], .b false, .b false, .b false, .b false]) (l := [_, _, _, _, _, FC Tryz.prog 110 [(.agg [(.fn 149 [] [])]), (.p (.agg [(intP c.sk), (intP c.ra), (intP c.be), (intsP c.pts), (.sl (i - 0) ((c.done.map intsP).take (i * 1)))]))] [] 14 (.p (intsP (zK50 c l100))) [], FC Tryz.prog 111 [] [] 10 (.agg [(.fn 149 [] [])]) [], FC Tryz.prog 110 [(.agg [(.fn 137 [] [])]), (.p (.agg [(intP c.sk), (intP c.ra), (intP c.be), (intsP c.pts), (.sl (i - 0) ((c.done.map intsP).take (i * 1)))]))] [] 6 (.p (intsP (zK51 c l100))) [], FC Tryz.prog 109 [] [] 2 (.agg [(.fn 137 [] [])]) [], _, _]) (by kernel_rfl) (gc h6 (gc (q_ltF h5) (gc (q_ltF h5) (gc (q_ltF h5) (gc (q_ltF h5) (gc (FV.fc (by rw [show ((.sl (i - 0) ((c.done.map intsP).take (i * 1))) : PV) = rowsP l100 from sl_cast h2 h3]; exact (sureA_ok (⟨c.sk, c.ra, c.be, c.pts, l100⟩ : Cup) h4)) rfl) (gc (FV.fc sureQ_p0 (by kernel_rfl)) (gc (FV.fc (by rw [show ((.sl (i - 0) ((c.done.map intsP).take (i * 1))) : PV) = rowsP l100 from sl_cast h2 h3]; exact (canA_ok (⟨c.sk, c.ra, c.be, c.pts, l100⟩ : Cup) h4)) rfl) (gc (FV.fc canQ_p0 (by kernel_rfl)) (gc h1 (gc (q_lt h0) gn)))))))))))
theorem dec_L0_p3 {c : Cup} {i : Nat} {r f : Int} (h0 : (((c.done.length + 1) : Nat) : Int) ≤ (i : Int)) : CodeOK Tryz.prog 0 zK5c1 (dec_S0 c i r f) (.exit 0) (dec_S0 c i r f) := by
  exact CodeOK.fin (g := ⟨(rng [(0, 2), (7, 16), (25, 29)]), [0], [], []⟩) (o := [.b false]) (l := [_]) (by kernel_rfl) (gc (q_ltF h0) gn)
theorem range_at {n i x : Nat} (h : (List.range n)[i]? = some x) : x = i ∧ i < n := by
  obtain ⟨h1, h2⟩ := List.getElem?_eq_some_iff.1 h
  rw [List.getElem_range] at h2
  exact ⟨h2.symm, by simpa using h1⟩
abbrev earlyC (c : Cup) (n : Nat) : Cup := { c with done := c.done.take n }
def decP (c : Cup) (n : Nat) : Bool := decide (0 < (whoM (sureM (earlyC c n)) c.sk.toNat).length) && decide ((whoM (canM (earlyC c n)) c.sk.toNat).length = 1)
def decM (c : Cup) : Int × Int × Int := match (List.range (c.done.length + 1)).findIdx? (decP c) with
  | some n => ((n : Int), (whoM (sureM (earlyC c n)) c.sk.toNat).headD 0, 0)
  | none => (0, 0, 6)
theorem whoM_nonneg {p : Nat → Bool} {n : Nat} {x : Int} (h : x ∈ whoM p n) : 0 ≤ x := by
  unfold whoM at h
  rw [List.mem_map] at h
  obtain ⟨k, _, rfl⟩ := h
  omega
theorem dec_ok (c : Cup) (hV : KL.Valid c) {base : Nat} : FV Tryz.prog 73 [.p (cupP c)] base (.tup [.p (intP (decM c).1), .p (intP (decM c).2.1), .p (intP (decM c).2.2)]) [] := by
  have hdn := hV.dn
  have ra2 := hV.ra2
  have hl : ∀ i, i ≤ c.done.length → (i - 0) = (c.done.take i).length := fun i hi => by simp; omega
  have hm : ∀ i, ((c.done.map intsP).take (i * 1)) = (c.done.take i).map intsP := fun i => by rw [Nat.mul_one, List.map_take]
  rcases LoopOK.find (P := Tryz.prog) (k := 0) (b := zK5c1) (fun i => dec_S0 c i 0 (-1)) (fun i _ => dec_S0 c i (i : Int) ((whoM (sureM (earlyC c i)) c.sk.toNat).headD 0)) (dec_S0 c (c.done.length + 1) 0 (-1)) (.exit 0) (.exit 0) (by simp) (by simp) (decP c) (List.range (c.done.length + 1))
    (fun i x hx hp => by
      obtain ⟨rfl, hi⟩ := range_at hx
      by_cases h1 : 0 < (whoM (sureM (earlyC c x)) c.sk.toNat).length
      · have h2 : (whoM (canM (earlyC c x)) c.sk.toNat).length ≠ 1 := fun h => by simp [decP, h1, h] at hp
        exact dec_L0_p1 (l100 := c.done.take x) (by omega) ⟨by omega, by omega, by omega, by simp⟩ (hl x (by omega)) (hm x) (valid_take hV x) (by exact_mod_cast h1) (by exact_mod_cast h2) (inR_nat (by omega)) rfl
      · exact dec_L0_p2 (l100 := c.done.take x) (by omega) ⟨by omega, by omega, by omega, by simp⟩ (hl x (by omega)) (hm x) (valid_take hV x) (by show ((whoM (sureM (earlyC c x)) c.sk.toNat).length : Int) ≤ 0; omega) (inR_nat (by omega)) rfl)
    (fun i x hx hp => by
      obtain ⟨rfl, hi⟩ := range_at hx
      simp only [decP, Bool.and_eq_true, decide_eq_true_eq] at hp
      obtain ⟨h1, h2⟩ := hp
      refine dec_L0_p0 (l100 := c.done.take x) (x101 := (whoM (sureM (earlyC c x)) c.sk.toNat).headD 0) (by omega) ⟨by omega, by omega, by omega, by simp⟩ (hl x (by omega)) (hm x) (valid_take hV x) (by exact_mod_cast h1) (by exact_mod_cast h2) ?_ rfl
      show (whoM (sureM (earlyC c x)) c.sk.toNat)[0]? = _
      generalize whoM (sureM (earlyC c x)) c.sk.toNat = l at h1
      cases l with
      | nil => simp at h1
      | cons a r => rfl)
    (by rw [List.length_range]; exact dec_L0_p3 (by omega)) with ⟨i, x, h1, h2, h3, h4⟩ | ⟨h1, h2, h3⟩
  · unfold decM
    rw [h2]
    refine dec_p2 hV.small ((KL.valid_iff c).2 hV) (inR_nat (by omega)) h4 ?_
    obtain ⟨rfl, hi⟩ := range_at h1
    simp only [decP, Bool.and_eq_true, decide_eq_true_eq] at h3
    have h5 := h3.1
    have : ∀ l : List Int, (∀ y ∈ l, 0 ≤ y) → 0 ≤ l.headD 0 := fun l h => by
      cases l with
      | nil => simp
      | cons a r => exact h a (by simp)
    exact this _ fun y hy => whoM_nonneg hy
  · unfold decM
    rw [h1]
    exact dec_p1 hV.small ((KL.valid_iff c).2 hV) (inR_nat (by omega)) h3 (by omega)
theorem last_p0 {c : Cup} {k : Int} (h0 : KL.Small c) (h1 : (namedE c k) = (0 : Int)) (h2 : inR (c.ra - (c.done.length : Int))) (h3 : (c.ra - (c.done.length : Int)) ≠ (1 : Int)) {base : Nat} : FV Tryz.prog 126 [(.p (cupP c)), (.p (intP k))] base (.tup [(.p (cupP c)), (.p (intP 9))]) [] := by
  exact FV.fin Tryz.func126 rfl (o := [.c (.tup [(.p (cupP c)), (.p (intP (namedE c k)))]) [], .b true, .b true, .b true, .b true, .b true, .b true, .b true, .b true, .b true, .b true, .b true]) (l := [_, _, _, _, _, _, _, _, _, _, _, _, FC Tryz.prog 107 [(.p (cupP c)), (.p (intP k))] [] 2 (.tup [(.p (cupP c)), (.p (intP (namedE c k)))]) []]) (by kernel_rfl) (gc (q_neT h3) (gc (q_eq h1) (gc (q_eq h1) (gc h2 (gc (q_eq h1) (gc (q_eq h1) (gc (q_eq h1) (gc (q_eq h1) (gc (q_eq h1) (gc (q_eq h1) (gc (q_eq h1) (gc (q_eq h1) (gc (FV.fc (named_ok c h0 k) rfl) gn)))))))))))))
theorem last_p1 {c : Cup} {k r0 : Int} (h0 : KL.Small c) (h1 : (namedE c k) = (0 : Int)) (h2 : inR (c.ra - (c.done.length : Int))) (h3 : (c.ra - (c.done.length : Int)) = (1 : Int)) (er0 : r0 = (namedE c k)) {base : Nat} : FV Tryz.prog 126 [(.p (cupP c)), (.p (intP k))] base (.tup [(.p (cupP c)), (.p (intP r0))]) [] := by
  subst er0
  exact FV.fin Tryz.func126 rfl (o := [.c (.tup [(.p (cupP c)), (.p (intP (namedE c k)))]) [], .b true, .b true, .b true, .b true, .b true, .b true, .b true, .b true, .b true, .b true, .b false]) (l := [_, _, _, _, _, _, _, _, _, _, _, _, FC Tryz.prog 107 [(.p (cupP c)), (.p (intP k))] [] 2 (.tup [(.p (cupP c)), (.p (intP (namedE c k)))]) []]) (by kernel_rfl) (gc (q_neF h3) (gc (q_eq h1) (gc (q_eq h1) (gc h2 (gc (q_eq h1) (gc (q_eq h1) (gc (q_eq h1) (gc (q_eq h1) (gc (q_eq h1) (gc (q_eq h1) (gc (q_eq h1) (gc (q_eq h1) (gc (FV.fc (named_ok c h0 k) rfl) gn)))))))))))))
theorem last_p2 {c : Cup} {k r0 : Int} (h0 : KL.Small c) (h1 : (namedE c k) ≠ (0 : Int)) (er0 : r0 = (namedE c k)) {base : Nat} : FV Tryz.prog 126 [(.p (cupP c)), (.p (intP k))] base (.tup [(.p (cupP c)), (.p (intP r0))]) [] := by
  subst er0
  exact FV.fin Tryz.func126 rfl (o := [.c (.tup [(.p (cupP c)), (.p (intP (namedE c k)))]) [], .b false, .b false, .b false, .b false, .b false, .b false, .b false, .b false, .b false, .b false]) (l := [_, _, _, _, _, _, _, _, _, _, FC Tryz.prog 107 [(.p (cupP c)), (.p (intP k))] [] 2 (.tup [(.p (cupP c)), (.p (intP (namedE c k)))]) []]) (by kernel_rfl) (gc (q_ne h1) (gc (q_ne h1) (gc (q_ne h1) (gc (q_ne h1) (gc (q_ne h1) (gc (q_ne h1) (gc (q_ne h1) (gc (q_ne h1) (gc (q_ne h1) (gc (q_ne h1) (gc (FV.fc (named_ok c h0 k) rfl) gn)))))))))))
def lastE (c : Cup) (k : Int) : Int := if namedE c k ≠ 0 then namedE c k else if c.ra - (c.done.length : Int) ≠ 1 then 9 else 0
theorem namedE_zero {c : Cup} {k : Int} (h : namedE c k = 0) : KL.Valid c ∧ 0 ≤ k ∧ k < c.sk := by
  unfold namedE at h
  by_cases h1 : checkP c = 0
  · rw [if_neg (by simpa using h1)] at h
    cases h2 : within k 0 (c.sk - 1) with
    | true => obtain ⟨h3, h4⟩ := within_iff.1 h2; exact ⟨(KL.valid_iff c).1 h1, h3, by omega⟩
    | false => rw [h2] at h; simp at h
  · rw [if_pos h1] at h; exact absurd h h1
theorem last_ok (c : Cup) (hS : KL.Small c) (k : Int) {base : Nat} : FV Tryz.prog 126 [.p (cupP c), .p (intP k)] base (.tup [.p (cupP c), .p (intP (lastE c k))]) [] := by
  unfold lastE
  by_cases h : namedE c k = 0
  · have hV := (namedE_zero h).1
    have h1 := hV.ra1
    have h2 := hV.ra2
    have h3 := hV.dn
    rw [if_neg (by simpa using h)]
    by_cases h4 : c.ra - (c.done.length : Int) = 1
    · rw [if_neg (by simpa using h4)]; exact last_p1 hS h (by unfold inR; omega) h4 h.symm
    · rw [if_pos h4]; exact last_p0 hS h (by unfold inR; omega) h4
  · rw [if_pos h]; exact last_p2 hS h rfl
theorem lastE_zero {c : Cup} {k : Int} (h : lastE c k = 0) : KL.Valid c ∧ 0 ≤ k ∧ k < c.sk ∧ c.ra = (c.done.length : Int) + 1 := by
  unfold lastE at h
  by_cases h1 : namedE c k = 0
  · obtain ⟨h2, h3, h4⟩ := namedE_zero h1
    rw [if_neg (by simpa using h1)] at h
    by_cases h5 : c.ra - (c.done.length : Int) = 1
    · exact ⟨h2, h3, h4, by omega⟩
    · rw [if_pos h5] at h; cases h
  · rw [if_pos h1] at h; exact absurd h h1
theorem beats_p0 {c : Cup} {o : Nat} {p : Int} {s : Nat} {w : Int} {l0 : List (List Int)} {r0 : Bool} (h0 : 0 ≤ c.sk ∧ c.sk ≤ c.sk ∧ c.sk ≤ 1000000) (h1 : 0 ≤ (o : Int) ∧ (o : Int) < ((c.sk.toNat : Nat) : Int)) (h2 : (o * 1) < (List.replicate c.sk.toNat (intP 0)).length) (h3 : 0 ≤ (s : Int) ∧ (s : Int) < ((c.sk.toNat : Nat) : Int)) (h4 : (s * 1) < ((List.replicate c.sk.toNat (intP 0)).set (o * 1) (intP p)).length) (h5 : 1 = l0.length) (h6 : [(.sl c.sk.toNat (((List.replicate c.sk.toNat (intP 0)).set (o * 1) (intP p)).set (s * 1) (intP w)))] = l0.map intsP) (h7 : c.pts.length ≤ 1000) (h8 : c.done.length + l0.length ≤ 1000) (h9 : ∀ r ∈ c.done ++ l0, r.length ≤ 1000) (h10 : KL.Valid (withC c l0)) (h11 : ((o : Nat) : Int) < (withC c l0).sk) (h12 : ((s : Nat) : Int) < (withC c l0).sk) (er0 : r0 = (KL.betterF (totalM (withC c l0) o) (totalM (withC c l0) s) (placesM (withC c l0) o) (placesM (withC c l0) s))) {base : Nat} : FV Tryz.prog 129 [(.p (cupP c)), (.p (intP (o : Int))), (.p (intP p)), (.p (intP (s : Int))), (.p (intP w))] base (.p (blP r0)) [] := by
  subst er0
  exact FV.fin Tryz.func129 rfl (o := [.c (.p (.agg [(intP ((withC c l0).sk)), (intP ((withC c l0).ra)), (intP ((withC c l0).be)), (intsP ((withC c l0).pts)), (rowsP ((withC c l0).done))])) [(2, .dead)], .c (.p (.agg ((intP (totalM (withC c l0) o)) :: ((placesM (withC c l0) o).map intP)))) [], .c (.p (.agg ((intP (totalM (withC c l0) s)) :: ((placesM (withC c l0) s).map intP)))) [], .c (.p (blP (KL.betterF (totalM (withC c l0) o) (totalM (withC c l0) s) (placesM (withC c l0) o) (placesM (withC c l0) s)))) []]) (l := [FC Tryz.prog 108 [(.p (.agg ((intP (totalM (withC c l0) o)) :: ((placesM (withC c l0) o).map intP)))), (.p (.agg ((intP (totalM (withC c l0) s)) :: ((placesM (withC c l0) s).map intP))))] [] 12 (.p (blP (KL.betterF (totalM (withC c l0) o) (totalM (withC c l0) s) (placesM (withC c l0) o) (placesM (withC c l0) s)))) [], FC Tryz.prog 103 [(.p (.agg [(intP ((withC c l0).sk)), (intP ((withC c l0).ra)), (intP ((withC c l0).be)), (intsP ((withC c l0).pts)), (rowsP ((withC c l0).done))])), (.p (intP (s : Int)))] [] 8 (.p (.agg ((intP (totalM (withC c l0) s)) :: ((placesM (withC c l0) s).map intP)))) [], FC Tryz.prog 103 [(.p (.agg [(intP ((withC c l0).sk)), (intP ((withC c l0).ra)), (intP ((withC c l0).be)), (intsP ((withC c l0).pts)), (rowsP ((withC c l0).done))])), (.p (intP (o : Int)))] [] 4 (.p (.agg ((intP (totalM (withC c l0) o)) :: ((placesM (withC c l0) o).map intP)))) [], FC Tryz.prog 115 [(.p (cupP c)), (.own 2)] [(2, (.row 22 1 [(.sl c.sk.toNat (((List.replicate c.sk.toNat (intP 0)).set (o * 1) (intP p)).set (s * 1) (intP w)))]))] 3 (.p (.agg [(intP ((withC c l0).sk)), (intP ((withC c l0).ra)), (intP ((withC c l0).be)), (intsP ((withC c l0).pts)), (rowsP ((withC c l0).done))])) [(2, .dead)], _, _, _, _, _]) (by kernel_rfl) (gc (FV.fc (better_ok (withC c l0) (withC c l0) o s) rfl) (gc (FV.fc (form_ok (withC c l0) h10 s h12) rfl) (gc (FV.fc (form_ok (withC c l0) h10 o h11) rfl) (gc (FV.close (ids := [2]) (args' := [(.p (cupP c)), (.p (.sl 1 [(.sl c.sk.toNat (((List.replicate c.sk.toNat (intP 0)).set (o * 1) (intP p)).set (s * 1) (intP w)))]))]) (by rw [show ((.sl 1 [(.sl c.sk.toNat (((List.replicate c.sk.toNat (intP 0)).set (o * 1) (intP p)).set (s * 1) (intP w)))]) : PV) = rowsP l0 from sl_cast h5 h6]; exact (with_ok c l0 h7 h8 h9)) (by kernel_rfl)) (gc h4 (gc h3 (gc h2 (gc h1 (gc h0 gn)))))))))
def beatsM (c : Cup) (o : Nat) (p : Int) (s : Nat) (w : Int) : Bool := betS (withC c [KL.race2 c.sk.toNat o p s w]) o s
structure beatsOK (c : Cup) (o : Nat) (p : Int) (s : Nat) (w : Int) : Prop where
  hv : KL.Valid c
  hd : (c.done.length : Int) < c.ra
  ho : (o : Int) < c.sk
  hs : (s : Int) < c.sk
  hp : 0 ≤ p ∧ p ≤ 60
  hw : 0 ≤ w ∧ w ≤ 60
  hn : p = 0 ∨ w = 0 ∨ p ≠ w
theorem beats_ok (c : Cup) (o : Nat) (p : Int) (s : Nat) (w : Int) (h : beatsOK c o p s w) {base : Nat} : FV Tryz.prog 129 [.p (cupP c), .p (intP (o : Int)), .p (intP p), .p (intP (s : Int)), .p (intP w)] base (.p (blP (beatsM c o p s w))) [] := by
  have hV := h.hv
  have h1 := hV.sk1
  have h2 := hV.sk2
  have h3 := hV.ra2
  have ho := h.ho
  have hs := h.hs
  have hd := h.hd
  have hr2 := KL.valid_race2 hV h.hd (o := o) (s := s) h.hp h.hw h.hn
  have hS := hr2.small
  refine beats_p0 (l0 := [KL.race2 c.sk.toNat o p s w]) (by omega) (by omega) (by simp; omega) (by omega) (by simp; omega) rfl ?_ hV.small.pts (by simp; omega) hS.rows hr2 (by show (o : Int) < c.sk; omega) (by show (s : Int) < c.sk; omega) rfl
  show [_] = [PV.sl (KL.race2 c.sk.toNat o p s w).length ((KL.race2 c.sk.toNat o p s w).map intP)]
  rw [KL.race2_length]
  simp [KL.race2, List.map_set]
def riv_S0 (c : Cup) (s : Nat) (i : Nat) (on : Nat) (oc : List PV) : St := ⟨fr 45 [(1, (.p (intP (s : Int)))), (2, (.ptr 0 0)), (4, (.p nilS)), (5, (.own 1)), (10, (.p (intP c.sk))), (11, (.p (intP (i : Int))))], [some (.box 120 [(.p (intP c.sk)), (.p (intP c.ra)), (.p (intP c.be)), (.p (intsP c.pts)), (.p (rowsP c.done))]), some (.row 155 on oc)]⟩
theorem riv_p0 {c : Cup} {s i'0 : Nat} {o'1 : List (List Int)} (hl0 : LoopOK Tryz.prog 0 zK5c0 (riv_S0 c s 0 0 []) (.exit 0) (riv_S0 c s i'0 o'1.length (o'1.flatten.map intP))) (h1 : uni 2 o'1) (h2 : o'1.length < 20) {base : Nat} : FV Tryz.prog 127 [(.p (cupP c)), (.p (intP (s : Int)))] base (.p (.sl ((isort (ltK 1) o'1).length) ((isort (ltK 1) o'1).flatten.map intP))) [] := by
  exact FV.frz (FMM.fin (k := 0) (g := ⟨[], [], [1], []⟩) rfl Tryz.func127 rfl (o := [.k 8 ⟨(rng [(0, 1), (3, 1), (6, 4), (12, 30), (43, 1)]), [0, 1], [], [(5, 155)]⟩ (.exit 0) (riv_S0 c s i'0 o'1.length (o'1.flatten.map intP)), .c (.tup []) [(1, (.row 155 ((isort (ltK 1) o'1).length) ((isort (ltK 1) o'1).flatten.map intP)))]]) (l := [FC Tryz.prog 157 [(.own 1), (.fn 158 [] [])] [(1, (.row 155 o'1.length (o'1.flatten.map intP)))] 2 (.tup []) [(1, (.row 155 ((isort (ltK 1) o'1).length) ((isort (ltK 1) o'1).flatten.map intP)))], _]) (by kernel_rfl) (gc (FMM.fc (ids := [1]) (srtR_ok o'1 h1 h2) (by kernel_rfl)) (gc hl0.code gn))) (by kernel_rfl)
def riv_S1 (c : Cup) (s : Nat) (i : Nat) (o : List (List Int)) (p : Int) : St := ⟨fr 45 [(1, (.p (intP (s : Int)))), (2, (.ptr 0 0)), (4, (.p nilS)), (5, (.own 1)), (6, (.p (intP (i : Int)))), (7, (.p (intP p))), (10, (.p (intP c.sk))), (11, (.p (intP (i : Int)))), (12, (.p (blP (decide ((i : Int) < c.sk))))), (13, (.p (intP (i : Int)))), (14, (.p (intP (i : Int)))), (15, (.p (intP (s : Int)))), (16, (.p (blP ((i : Int) == (s : Int)))))], [some (.box 120 [(.p (intP c.sk)), (.p (intP c.ra)), (.p (intP c.be)), (.p (intsP c.pts)), (.p (rowsP c.done))]), some (.row 155 o.length (o.flatten.map intP))]⟩
theorem riv_L0_p0 {c : Cup} {s i : Nat} {o : List (List Int)} {i' : Nat} (h0 : (i : Int) < c.sk) (h1 : (i : Int) = (s : Int)) (h2 : inR (((i + 1) : Nat) : Int)) (ei' : i' = (i + 1)) : CodeOK Tryz.prog 0 zK5c0 (riv_S0 c s i o.length (o.flatten.map intP)) .normal (riv_S0 c s i' o.length (o.flatten.map intP)) := by
  subst ei'
  exact CodeOK.fin (g := ⟨(rng [(0, 1), (3, 1), (6, 4), (12, 30), (43, 1)]), [0, 1], [], []⟩) (o := [.b true, .b true]) (l := [_, _, _]) (by kernel_rfl) (gc h2 (gc (q_eq h1) (gc (q_lt h0) gn)))
theorem riv_L0_p1 {c : Cup} {s i : Nat} {o : List (List Int)} {p'100 : Int} {i' : Nat} {o' : List (List Int)} (h0 : (i : Int) < c.sk) (h1 : (i : Int) ≠ (s : Int)) (hl2 : LoopOK Tryz.prog 0 zK5c2 (riv_S1 c s i o (0 : Int)) (.exit 2) (riv_S1 c s i o p'100)) (h3 : beatsOK c i (0 : Int) s (0 : Int)) (h4 : (beatsM c i (0 : Int) s (0 : Int)) = true) (h5 : [(intP (i : Int)), (intP 61)].length = 1 * 2 ∧ o.length + 1 ≤ 1000000) (h6 : inR (((i + 1) : Nat) : Int)) (ei' : i' = (i + 1)) (eo'n : o'.length = (o.length + 1)) (eo'c : o'.flatten.map intP = ((o.flatten.map intP) ++ [(intP (i : Int)), (intP 61)])) : CodeOK Tryz.prog 0 zK5c0 (riv_S0 c s i o.length (o.flatten.map intP)) .normal (riv_S0 c s i' o'.length (o'.flatten.map intP)) := by
  subst ei'
  have raw : CodeOK Tryz.prog 0 zK5c0 (riv_S0 c s i o.length (o.flatten.map intP)) .normal (riv_S0 c s (i + 1) (o.length + 1) ((o.flatten.map intP) ++ [(intP (i : Int)), (intP 61)])) := CodeOK.fin (g := ⟨(rng [(0, 1), (3, 1), (6, 4), (12, 30), (43, 1)]), [0, 3], [], []⟩) (o := [.b true, .b false, .k 4 ⟨(rng [(0, 1), (3, 1), (8, 2), (17, 12), (43, 1)]), [0, 1], [], []⟩ (.exit 2) (riv_S1 c s i o p'100), .c (.p (blP (beatsM c i (0 : Int) s (0 : Int)))) [], .b true, .b true]) (l := [_, _, [(intP (i : Int)), (intP 61)].length = 2, (decide ((61 : Int) > (0 : Int))) = true, _, FC Tryz.prog 129 [(.p (cupP c)), (.p (intP (i : Int))), (.p (intP 0)), (.p (intP (s : Int))), (.p (intP 0))] [] 2 (.p (blP (beatsM c i (0 : Int) s (0 : Int)))) [], _, _, _]) (by kernel_rfl) (gc h6 (gc h5 (gc (by first | decide | simp) (gc (by first | decide | simp) (gc h4 (gc (FV.fc (beats_ok c i (0 : Int) s (0 : Int) h3) rfl) (gc hl2.code (gc (q_ne h1) (gc (q_lt h0) gn)))))))))
  exact raw.cast (by rw [eo'n, eo'c])
theorem riv_L0_p2 {c : Cup} {s i : Nat} {o : List (List Int)} {p'100 : Int} {i' : Nat} {o' : List (List Int)} (h0 : (i : Int) < c.sk) (h1 : (i : Int) ≠ (s : Int)) (hl2 : LoopOK Tryz.prog 0 zK5c2 (riv_S1 c s i o (0 : Int)) (.exit 2) (riv_S1 c s i o p'100)) (h3 : beatsOK c i (0 : Int) s (0 : Int)) (h4 : (beatsM c i (0 : Int) s (0 : Int)) = false) (h5 : (0 : Int) < p'100) (h6 : [(intP (i : Int)), (intP p'100)].length = 1 * 2 ∧ o.length + 1 ≤ 1000000) (h7 : inR (((i + 1) : Nat) : Int)) (ei' : i' = (i + 1)) (eo'n : o'.length = (o.length + 1)) (eo'c : o'.flatten.map intP = ((o.flatten.map intP) ++ [(intP (i : Int)), (intP p'100)])) : CodeOK Tryz.prog 0 zK5c0 (riv_S0 c s i o.length (o.flatten.map intP)) .normal (riv_S0 c s i' o'.length (o'.flatten.map intP)) := by
  subst ei'
  have raw : CodeOK Tryz.prog 0 zK5c0 (riv_S0 c s i o.length (o.flatten.map intP)) .normal (riv_S0 c s (i + 1) (o.length + 1) ((o.flatten.map intP) ++ [(intP (i : Int)), (intP p'100)])) := CodeOK.fin (g := ⟨(rng [(0, 1), (3, 1), (6, 4), (12, 30), (43, 1)]), [0, 3], [], []⟩) (o := [.b true, .b false, .k 4 ⟨(rng [(0, 1), (3, 1), (8, 2), (17, 12), (43, 1)]), [0, 1], [], []⟩ (.exit 2) (riv_S1 c s i o p'100), .c (.p (blP (beatsM c i (0 : Int) s (0 : Int)))) [], .b false, .b true]) (l := [_, _, [(intP (i : Int)), (intP p'100)].length = 2, _, _, FC Tryz.prog 129 [(.p (cupP c)), (.p (intP (i : Int))), (.p (intP 0)), (.p (intP (s : Int))), (.p (intP 0))] [] 2 (.p (blP (beatsM c i (0 : Int) s (0 : Int)))) [], _, _, _]) (by kernel_rfl) (gc h7 (gc h6 (gc (by first | decide | simp) (gc (q_lt h5) (gc h4 (gc (FV.fc (beats_ok c i (0 : Int) s (0 : Int) h3) rfl) (gc hl2.code (gc (q_ne h1) (gc (q_lt h0) gn)))))))))
  exact raw.cast (by rw [eo'n, eo'c])
theorem riv_L0_p3 {c : Cup} {s i : Nat} {o : List (List Int)} {p'100 : Int} {i' : Nat} (h0 : (i : Int) < c.sk) (h1 : (i : Int) ≠ (s : Int)) (hl2 : LoopOK Tryz.prog 0 zK5c2 (riv_S1 c s i o (0 : Int)) (.exit 2) (riv_S1 c s i o p'100)) (h3 : beatsOK c i (0 : Int) s (0 : Int)) (h4 : (beatsM c i (0 : Int) s (0 : Int)) = false) (h5 : p'100 ≤ (0 : Int)) (h6 : inR (((i + 1) : Nat) : Int)) (ei' : i' = (i + 1)) : CodeOK Tryz.prog 0 zK5c0 (riv_S0 c s i o.length (o.flatten.map intP)) .normal (riv_S0 c s i' o.length (o.flatten.map intP)) := by
  subst ei'
  exact CodeOK.fin (g := ⟨(rng [(0, 1), (3, 1), (6, 4), (12, 30), (43, 1)]), [0, 1], [], []⟩) (o := [.b true, .b false, .k 4 ⟨(rng [(0, 1), (3, 1), (8, 2), (17, 12), (43, 1)]), [0, 1], [], []⟩ (.exit 2) (riv_S1 c s i o p'100), .c (.p (blP (beatsM c i (0 : Int) s (0 : Int)))) [], .b false, .b false]) (l := [_, _, _, FC Tryz.prog 129 [(.p (cupP c)), (.p (intP (i : Int))), (.p (intP 0)), (.p (intP (s : Int))), (.p (intP 0))] [] 2 (.p (blP (beatsM c i (0 : Int) s (0 : Int)))) [], _, _, _]) (by kernel_rfl) (gc h6 (gc (q_ltF h5) (gc h4 (gc (FV.fc (beats_ok c i (0 : Int) s (0 : Int) h3) rfl) (gc hl2.code (gc (q_ne h1) (gc (q_lt h0) gn)))))))
theorem riv_L0_p4 {c : Cup} {s i : Nat} {o : List (List Int)} (h0 : c.sk ≤ (i : Int)) : CodeOK Tryz.prog 0 zK5c0 (riv_S0 c s i o.length (o.flatten.map intP)) (.exit 0) (riv_S0 c s i o.length (o.flatten.map intP)) := by
  exact CodeOK.fin (g := ⟨(rng [(0, 1), (3, 1), (6, 4), (12, 30), (43, 1)]), [0, 1], [], []⟩) (o := [.b false]) (l := [_]) (by kernel_rfl) (gc (q_ltF h0) gn)
theorem riv_L1_p0 {c : Cup} {s i : Nat} {o : List (List Int)} {p p' : Int} (h0 : p < (60 : Int)) (h1 : inR (p + (1 : Int))) (h2 : beatsOK c i (p + (1 : Int)) s (0 : Int)) (h3 : (beatsM c i (p + (1 : Int)) s (0 : Int)) = true) (ep' : p' = (p + (1 : Int))) : CodeOK Tryz.prog 0 zK5c2 (riv_S1 c s i o p) .normal (riv_S1 c s i o p') := by
  subst ep'
  exact CodeOK.fin (g := ⟨(rng [(0, 1), (3, 1), (8, 2), (17, 12), (43, 1)]), [0, 1], [], []⟩) (o := [.b true, .b true, .b true, .b true, .b true, .b true, .c (.p (blP (beatsM c i (p + (1 : Int)) s (0 : Int)))) [], .b true, .b true]) (l := [_, _, _, FC Tryz.prog 129 [(.p (cupP c)), (.p (intP (i : Int))), (.p (intP (p + (1 : Int)))), (.p (intP (s : Int))), (.p (intP 0))] [] 2 (.p (blP (beatsM c i (p + (1 : Int)) s (0 : Int)))) [], _, _, _, _, _, _, _]) (by kernel_rfl) (gc h1 (gc h3 (gc (q_lt h0) (gc (FV.fc (beats_ok c i (p + (1 : Int)) s (0 : Int) h2) rfl) (gc (q_lt h0) (gc (q_lt h0) (gc h1 (gc (q_lt h0) (gc (q_lt h0) (gc (q_lt h0) (gc (q_lt h0) gn)))))))))))
theorem riv_L1_p1 {c : Cup} {s i : Nat} {o : List (List Int)} {p : Int} (h0 : p < (60 : Int)) (h1 : inR (p + (1 : Int))) (h2 : beatsOK c i (p + (1 : Int)) s (0 : Int)) (h3 : (beatsM c i (p + (1 : Int)) s (0 : Int)) = false) : CodeOK Tryz.prog 0 zK5c2 (riv_S1 c s i o p) (.exit 2) (riv_S1 c s i o p) := by
  exact CodeOK.fin (g := ⟨(rng [(0, 1), (3, 1), (8, 2), (17, 12), (43, 1)]), [0, 1], [], []⟩) (o := [.b true, .b true, .b true, .b true, .b true, .b true, .c (.p (blP (beatsM c i (p + (1 : Int)) s (0 : Int)))) [], .b true, .b false]) (l := [_, _, FC Tryz.prog 129 [(.p (cupP c)), (.p (intP (i : Int))), (.p (intP (p + (1 : Int)))), (.p (intP (s : Int))), (.p (intP 0))] [] 2 (.p (blP (beatsM c i (p + (1 : Int)) s (0 : Int)))) [], _, _, _, _, _, _, _]) (by kernel_rfl) (gc h3 (gc (q_lt h0) (gc (FV.fc (beats_ok c i (p + (1 : Int)) s (0 : Int) h2) rfl) (gc (q_lt h0) (gc (q_lt h0) (gc h1 (gc (q_lt h0) (gc (q_lt h0) (gc (q_lt h0) (gc (q_lt h0) gn))))))))))
theorem riv_L1_p2 {c : Cup} {s i : Nat} {o : List (List Int)} {p : Int} (h0 : (60 : Int) ≤ p) : CodeOK Tryz.prog 0 zK5c2 (riv_S1 c s i o p) (.exit 2) (riv_S1 c s i o p) := by
  exact CodeOK.fin (g := ⟨(rng [(0, 1), (3, 1), (8, 2), (17, 12), (43, 1)]), [0, 1], [], []⟩) (o := [.b false, .b false, .b false, .b false, .b false, .b false, .b false]) (l := [_, _, _, _, _, _, _]) (by kernel_rfl) (gc (q_ltF h0) (gc (q_ltF h0) (gc (q_ltF h0) (gc (q_ltF h0) (gc (q_ltF h0) (gc (q_ltF h0) (gc (q_ltF h0) gn)))))))
def upto (f : Int → Bool) : Nat → Int → Int
  | 0, p => p
  | n + 1, p => if f (p + 1) then upto f n (p + 1) else p
theorem upto_bd (f : Int → Bool) : ∀ n p, p ≤ upto f n p ∧ upto f n p ≤ p + n
  | 0, p => by simp [upto]
  | n + 1, p => by
    unfold upto
    split
    · have := upto_bd f n (p + 1); omega
    · omega
def rivPl (c : Cup) (s i : Nat) : Int := if beatsM c i 0 s 0 then 61 else upto (fun p => beatsM c i p s 0) 60 0
def rivG (c : Cup) (s i : Nat) : List (List Int) := if i = s then [] else if 0 < rivPl c s i then [[(i : Int), rivPl c s i]] else []
def rivL (c : Cup) (s : Nat) : List (List Int) := (List.range c.sk.toNat).flatMap (rivG c s)
def rivM (c : Cup) (s : Nat) : List (List Int) := isort (ltK 1) (rivL c s)
structure rivOK (c : Cup) (s : Nat) : Prop where
  hv : KL.Valid c
  hd : (c.done.length : Int) < c.ra
  hs : (s : Int) < c.sk
theorem rivPl_bd (c : Cup) (s i : Nat) : 0 ≤ rivPl c s i ∧ rivPl c s i ≤ 61 := by
  unfold rivPl
  split
  · omega
  · have := upto_bd (fun p => beatsM c i p s 0) 60 0; omega
theorem rivL_mem {c : Cup} {s : Nat} {x : List Int} (h : x ∈ rivL c s) : ∃ i : Nat, (i : Int) < c.sk ∧ i ≠ s ∧ x = [(i : Int), rivPl c s i] ∧ 0 < rivPl c s i := by
  unfold rivL at h
  rw [List.mem_flatMap] at h
  obtain ⟨i, hi, hx⟩ := h
  rw [List.mem_range] at hi
  unfold rivG at hx
  split at hx
  · simp at hx
  · split at hx
    · rename_i h1 h2
      rw [List.mem_singleton] at hx
      exact ⟨i, by omega, h1, hx, h2⟩
    · simp at hx
theorem flatMap_len {α : Type} {g : Nat → List α} (h : ∀ i, (g i).length ≤ 1) : ∀ l : List Nat, (l.flatMap g).length ≤ l.length
  | [] => by simp
  | x :: l => by rw [List.flatMap_cons, List.length_append, List.length_cons]; have := flatMap_len h l; have := h x; omega
theorem foldl_flatMap {α : Type} {g : Nat → List α} : ∀ (l : List Nat) (a : List α), l.foldl (fun acc s => acc ++ g s) a = a ++ l.flatMap g
  | [], a => by simp
  | x :: l, a => by rw [List.foldl_cons, foldl_flatMap l, List.flatMap_cons, List.append_assoc]
theorem rivG_len (c : Cup) (s i : Nat) : (rivG c s i).length ≤ 1 := by
  unfold rivG
  split
  · simp
  · split <;> simp
theorem riv_in (c : Cup) (s i : Nat) (o : List (List Int)) (hk : ∀ p : Int, 0 ≤ p → p ≤ 60 → beatsOK c i p s 0) : ∀ (n : Nat) (p : Int), 0 ≤ p → p + n = 60 →
    LoopOK Tryz.prog 0 zK5c2 (riv_S1 c s i o p) (.exit 2) (riv_S1 c s i o (upto (fun p => beatsM c i p s 0) n p))
  | 0, p, h0, h1 => by
    unfold upto
    exact .exit (riv_L1_p2 (by omega)) (by simp)
  | n + 1, p, h0, h1 => by
    unfold upto
    by_cases hb : beatsM c i (p + 1) s 0 = true
    · rw [if_pos hb]
      exact .step (riv_L1_p0 (by omega) (by unfold inR; omega) (hk _ (by omega) (by omega)) hb rfl) (riv_in c s i o hk n (p + 1) (by omega) (by omega))
    · rw [if_neg hb]
      exact .exit (riv_L1_p1 (by omega) (by unfold inR; omega) (hk _ (by omega) (by omega)) (by simpa using hb)) (by simp)
theorem riv_ok (c : Cup) (s : Nat) (h : rivOK c s) {base : Nat} : FV Tryz.prog 127 [.p (cupP c), .p (intP (s : Int))] base (.p (.sl (rivM c s).length ((rivM c s).flatten.map intP))) [] := by
  have hV := h.hv
  have h1 := hV.sk1
  have h2 := hV.sk2
  have hL := LoopOK.times (P := Tryz.prog) (k := 0) (b := zK5c0) (e := .exit 0) (fun i (o : List (List Int)) => riv_S0 c s i o.length (o.flatten.map intP)) (fun o => riv_S0 c s c.sk.toNat o.length (o.flatten.map intP)) (fun acc i => acc ++ rivG c s i) (fun i o => o.length ≤ i) (by simp) c.sk.toNat (a0 := []) (by simp)
    (fun i o hi hI => by
      have hgl := rivG_len c s i
      refine ⟨by rw [List.length_append]; omega, ?_⟩
      have hk : ∀ p : Int, 0 ≤ p → p ≤ 60 → beatsOK c i p s 0 := fun p q1 q2 => ⟨hV, h.hd, by omega, h.hs, ⟨q1, q2⟩, by omega, .inr (.inl rfl)⟩
      unfold rivG
      by_cases his : i = s
      · rw [if_pos his, List.append_nil]
        exact riv_L0_p0 (by omega) (by omega) (inR_nat (by omega)) rfl
      · rw [if_neg his]
        have hin := riv_in c s i o hk 60 0 (by omega) (by omega)
        have hbd := upto_bd (fun p => beatsM c i p s 0) 60 0
        by_cases hb : beatsM c i 0 s 0 = true
        · have e : rivPl c s i = 61 := by unfold rivPl; rw [if_pos hb]
          rw [e, if_pos (by omega)]
          exact riv_L0_p1 (by omega) (by omega) hin (hk 0 (by omega) (by omega)) hb (by simp; omega) (inR_nat (by omega)) rfl (by simp) (by simp)
        · have hb : beatsM c i 0 s 0 = false := by simpa using hb
          have e : rivPl c s i = upto (fun p => beatsM c i p s 0) 60 0 := by unfold rivPl; rw [hb]; rfl
          rw [e]
          by_cases hp : 0 < upto (fun p => beatsM c i p s 0) 60 0
          · rw [if_pos hp]
            exact riv_L0_p2 (by omega) (by omega) hin (hk 0 (by omega) (by omega)) hb hp (by simp; omega) (inR_nat (by omega)) rfl (by simp) (by simp)
          · rw [if_neg hp, List.append_nil]
            exact riv_L0_p3 (by omega) (by omega) hin (hk 0 (by omega) (by omega)) hb (by omega) (inR_nat (by omega)) rfl)
    (fun o _ => riv_L0_p4 (by omega))
  rw [foldl_flatMap, List.nil_append] at hL
  have hlen := flatMap_len (rivG_len c s) (List.range c.sk.toNat)
  rw [List.length_range] at hlen
  exact riv_p0 hL (fun x hx => by obtain ⟨i, _, _, rfl, _⟩ := rivL_mem hx; rfl) (by show (rivL c s).length < 20; unfold rivL; omega)
def worst_S0 (c : Cup) (s : Nat) (i : Nat) (rk : Int) (nx : Int) (rcn : Nat) (rcc : List PV) : St := ⟨fr 58 [(4, (.p (intP 0))), (5, (.p nilS)), (6, (.p (intP 0))), (9, (.own 0)), (10, (.p (intP rk))), (11, (.p (intP nx))), (29, (.p (.sl ((rivM c s).length) ((rivM c s).flatten.map intP)))), (30, (.p (intP (((rivM c s).length : Nat) : Int)))), (31, (.p (intP (i : Int))))], [some (.row 3 rcn rcc)]⟩
theorem worst_p1 {c : Cup} {s i'0 : Nat} {rk'1 nx'2 : Int} {rc'3 : List Int} (h0 : KL.Small c) (h1 : (lastE c (s : Int)) = (0 : Int)) (h2 : 0 ≤ c.sk ∧ c.sk ≤ c.sk ∧ c.sk ≤ 1000000) (h3 : rivOK c s) (hl4 : LoopOK Tryz.prog 0 zK5c3 (worst_S0 c s 0 (1 : Int) (1 : Int) c.sk.toNat (List.replicate c.sk.toNat (intP 0))) (.exit 0) (worst_S0 c s i'0 rk'1 nx'2 rc'3.length (rc'3.map intP))) {base : Nat} : FV Tryz.prog 55 [(.p (cupP c)), (.p (intP (s : Int)))] base (.tup [(.p (intP rk'1)), (.p (intsP rc'3)), (.p (intP 0))]) [] := by
  exact FV.frz (FMM.fin (k := 0) (g := ⟨[], [], [0], []⟩) rfl Tryz.func55 rfl (o := [.c (.tup [(.p (cupP c)), (.p (intP (lastE c (s : Int))))]) [], .b false, .c (.p (.sl ((rivM c s).length) ((rivM c s).flatten.map intP))) [], .k 1 ⟨(rng [(0, 4), (7, 2), (12, 17), (32, 24)]), [2], [], []⟩ (.exit 0) (worst_S0 c s i'0 rk'1 nx'2 rc'3.length (rc'3.map intP))]) (l := [_, FC Tryz.prog 127 [(.p (cupP c)), (.p (intP (s : Int)))] [] 3 (.p (.sl ((rivM c s).length) ((rivM c s).flatten.map intP))) [], _, _, FC Tryz.prog 126 [(.p (cupP c)), (.p (intP (s : Int)))] [] 1 (.tup [(.p (cupP c)), (.p (intP (lastE c (s : Int))))]) []]) (by kernel_rfl) (gc hl4.code (gc (FV.fc (riv_ok c s h3) rfl) (gc h2 (gc (q_neF h1) (gc (FV.fc (last_ok c h0 (s : Int)) rfl) gn)))))) (by kernel_rfl)
theorem worst_L0_p0 {c : Cup} {s i : Nat} {rk nx : Int} {rc : List Int} {y100 y101 : Int} {i' : Nat} {rk' : Int} (h0 : (i : Int) < (((rivM c s).length : Nat) : Int)) (h1 : (rivM c s)[i]? = some [y100, y101]) (h2 : uni 2 (rivM c s)) (h3 : (60 : Int) < y101) (h4 : inR (rk + (1 : Int))) (h5 : inR (((i + 1) : Nat) : Int)) (ei' : i' = (i + 1)) (erk' : rk' = (rk + (1 : Int))) : CodeOK Tryz.prog 0 zK5c3 (worst_S0 c s i rk nx rc.length (rc.map intP)) .normal (worst_S0 c s i' rk' nx rc.length (rc.map intP)) := by
  subst ei' erk'
  exact CodeOK.fin (g := ⟨(rng [(0, 4), (7, 2), (12, 17), (32, 24)]), [0], [], []⟩) (o := [.b true, .x (.agg [(intP y100), (intP y101)]), .b true]) (l := [_, _, _, some (.agg ((((rivM c s).flatten.map intP).drop (i * 2)).take 2) : PV) = some (.agg [(intP y100), (intP y101)]), _, 0 ≤ (i : Int) ∧ (i : Int) < (((rivM c s).length : Nat) : Int) ∧ (i * 2) < ((rivM c s).flatten.map intP).length, _]) (by kernel_rfl) (gc h5 (gc h4 (gc (q_lt h3) (gc (fl_load (i := i) h2 h1) (gc (fl_le (i := i) h2 h1) (gc (ix_fl (k := 2) (i := (i : Int)) (by decide) h2 (Int.natCast_nonneg _) h1) (gc (q_lt h0) gn)))))))
theorem worst_L0_p1 {c : Cup} {s i : Nat} {rk nx : Int} {rc : List Int} {y100 y101 x102 : Int} {i' : Nat} {rk' nx' : Int} {rc' : List Int} (h0 : (i : Int) < (((rivM c s).length : Nat) : Int)) (h1 : (rivM c s)[i]? = some [y100, y101]) (h2 : uni 2 (rivM c s)) (h3 : y101 ≤ (60 : Int)) (h4 : nx ≤ y101) (h5 : rc[y100.toNat]? = some x102) (h6 : 0 ≤ y100) (h7 : (y100.toNat * 1) < (rc.map intP).length) (h8 : inR (nx + (1 : Int))) (h9 : inR (rk + (1 : Int))) (h10 : inR (((i + 1) : Nat) : Int)) (ei' : i' = (i + 1)) (erk' : rk' = (rk + (1 : Int))) (enx' : nx' = (nx + (1 : Int))) (erc'n : rc'.length = rc.length) (erc'c : rc'.map intP = ((rc.map intP).set (y100.toNat * 1) (intP nx))) : CodeOK Tryz.prog 0 zK5c3 (worst_S0 c s i rk nx rc.length (rc.map intP)) .normal (worst_S0 c s i' rk' nx' rc'.length (rc'.map intP)) := by
  subst ei' erk' enx'
  have raw : CodeOK Tryz.prog 0 zK5c3 (worst_S0 c s i rk nx rc.length (rc.map intP)) .normal (worst_S0 c s (i + 1) (rk + (1 : Int)) (nx + (1 : Int)) rc.length ((rc.map intP).set (y100.toNat * 1) (intP nx))) := CodeOK.fin (g := ⟨(rng [(0, 4), (7, 2), (12, 17), (32, 24)]), [0], [], []⟩) (o := [.b true, .x (.agg [(intP y100), (intP y101)]), .b false, .b true]) (l := [_, _, _, _, _, _, _, some (.agg ((((rivM c s).flatten.map intP).drop (i * 2)).take 2) : PV) = some (.agg [(intP y100), (intP y101)]), _, 0 ≤ (i : Int) ∧ (i : Int) < (((rivM c s).length : Nat) : Int) ∧ (i * 2) < ((rivM c s).flatten.map intP).length, _]) (by kernel_rfl) (gc h10 (gc h9 (gc h8 (gc h7 (gc (ix_own (i := y100) h6 h5) (gc (q_le h4) (gc (q_ltF h3) (gc (fl_load (i := i) h2 h1) (gc (fl_le (i := i) h2 h1) (gc (ix_fl (k := 2) (i := (i : Int)) (by decide) h2 (Int.natCast_nonneg _) h1) (gc (q_lt h0) gn)))))))))))
  exact raw.cast (by rw [erc'n, erc'c])
theorem worst_L0_p2 {c : Cup} {s i : Nat} {rk nx : Int} {rc : List Int} {y100 y101 : Int} {i' : Nat} (h0 : (i : Int) < (((rivM c s).length : Nat) : Int)) (h1 : (rivM c s)[i]? = some [y100, y101]) (h2 : uni 2 (rivM c s)) (h3 : y101 ≤ (60 : Int)) (h4 : y101 < nx) (h5 : inR (((i + 1) : Nat) : Int)) (ei' : i' = (i + 1)) : CodeOK Tryz.prog 0 zK5c3 (worst_S0 c s i rk nx rc.length (rc.map intP)) .normal (worst_S0 c s i' rk nx rc.length (rc.map intP)) := by
  subst ei'
  exact CodeOK.fin (g := ⟨(rng [(0, 4), (7, 2), (12, 17), (32, 24)]), [0], [], []⟩) (o := [.b true, .x (.agg [(intP y100), (intP y101)]), .b false, .b false]) (l := [_, _, _, some (.agg ((((rivM c s).flatten.map intP).drop (i * 2)).take 2) : PV) = some (.agg [(intP y100), (intP y101)]), _, 0 ≤ (i : Int) ∧ (i : Int) < (((rivM c s).length : Nat) : Int) ∧ (i * 2) < ((rivM c s).flatten.map intP).length, _]) (by kernel_rfl) (gc h5 (gc (q_leF h4) (gc (q_ltF h3) (gc (fl_load (i := i) h2 h1) (gc (fl_le (i := i) h2 h1) (gc (ix_fl (k := 2) (i := (i : Int)) (by decide) h2 (Int.natCast_nonneg _) h1) (gc (q_lt h0) gn)))))))
theorem worst_L0_p3 {c : Cup} {s i : Nat} {rk nx : Int} {rc : List Int} (h0 : (((rivM c s).length : Nat) : Int) ≤ (i : Int)) : CodeOK Tryz.prog 0 zK5c3 (worst_S0 c s i rk nx rc.length (rc.map intP)) (.exit 0) (worst_S0 c s i rk nx rc.length (rc.map intP)) := by
  exact CodeOK.fin (g := ⟨(rng [(0, 4), (7, 2), (12, 17), (32, 24)]), [0], [], []⟩) (o := [.b false]) (l := [_]) (by kernel_rfl) (gc (q_ltF h0) gn)
def table_S0 (c : Cup) (i : Nat) (on : Nat) (oc : List PV) : St := ⟨fr 43 [(2, (.p nilS)), (3, (.p (intP 0))), (4, (.ptr 0 0)), (6, (.own 1)), (19, (.p (intP c.sk))), (20, (.p (intP (i : Int))))], [some (.box 120 [(.p (intP c.sk)), (.p (intP c.ra)), (.p (intP c.be)), (.p (intsP c.pts)), (.p (rowsP c.done))]), some (.row 61 on oc)]⟩
theorem table_p1 {c : Cup} {i'0 : Nat} {o'1 : List (List Int)} (h0 : KL.Small c) (h1 : (checkP c) = (0 : Int)) (hl2 : LoopOK Tryz.prog 0 zK5c4 (table_S0 c 0 0 []) (.exit 0) (table_S0 c i'0 o'1.length (o'1.flatten.map intP))) (h3 : uni 4 o'1) (h4 : o'1.length < 20) {base : Nat} : FV Tryz.prog 34 [(.p (cupP c))] base (.tup [(.p (.sl ((isort (ltK 1) o'1).length) ((isort (ltK 1) o'1).flatten.map intP))), (.p (intP 0))]) [] := by
  exact FV.frz (FMM.fin (k := 0) (g := ⟨[], [], [1], []⟩) rfl Tryz.func34 rfl (o := [.c (.tup [(.p (cupP c)), (.p (intP (checkP c)))]) [], .b false, .k 6 ⟨(rng [(0, 2), (5, 1), (7, 12), (21, 19), (41, 1)]), [1, 2], [], [(6, 61)]⟩ (.exit 0) (table_S0 c i'0 o'1.length (o'1.flatten.map intP)), .c (.tup []) [(1, (.row 61 ((isort (ltK 1) o'1).length) ((isort (ltK 1) o'1).flatten.map intP)))]]) (l := [FC Tryz.prog 105 [(.own 1), (.fn 106 [] [])] [(1, (.row 61 o'1.length (o'1.flatten.map intP)))] 2 (.tup []) [(1, (.row 61 ((isort (ltK 1) o'1).length) ((isort (ltK 1) o'1).flatten.map intP)))], _, _, FC Tryz.prog 88 [(.p (cupP c))] [] 1 (.tup [(.p (cupP c)), (.p (intP (checkP c)))]) []]) (by kernel_rfl) (gc (FMM.fc (ids := [1]) (srtL_ok o'1 h3 h4) (by kernel_rfl)) (gc hl2.code (gc (q_neF h1) (gc (FV.fc (asked_ok c h0) rfl) gn))))) (by kernel_rfl)
theorem table_L0_p0 {c : Cup} {i : Nat} {o : List (List Int)} {x100 : Int} {i' : Nat} {o' : List (List Int)} (h0 : (i : Int) < c.sk) (h1 : KL.Valid c) (h2 : ((i : Nat) : Int) < c.sk) (h3 : ((intP (totalM c i)) :: ((placesM c i).map intP)).length = 62) (h4 : (placesM c i)[1]? = some x100) (h5 : [(intP (i : Int)), (intP (rankM c i)), (intP (totalM c i)), (intP x100)].length = 1 * 4 ∧ o.length + 1 ≤ 1000000) (h6 : inR (((i + 1) : Nat) : Int)) (ei' : i' = (i + 1)) (eo'n : o'.length = (o.length + 1)) (eo'c : o'.flatten.map intP = ((o.flatten.map intP) ++ [(intP (i : Int)), (intP (rankM c i)), (intP (totalM c i)), (intP x100)])) : CodeOK Tryz.prog 0 zK5c4 (table_S0 c i o.length (o.flatten.map intP)) .normal (table_S0 c i' o'.length (o'.flatten.map intP)) := by
  subst ei'
  have raw : CodeOK Tryz.prog 0 zK5c4 (table_S0 c i o.length (o.flatten.map intP)) .normal (table_S0 c (i + 1) (o.length + 1) ((o.flatten.map intP) ++ [(intP (i : Int)), (intP (rankM c i)), (intP (totalM c i)), (intP x100)])) := CodeOK.fin (g := ⟨(rng [(0, 2), (5, 1), (7, 12), (21, 19), (41, 1)]), [0, 8], [], []⟩) (o := [.b true, .c (.p (.agg ((intP (totalM c i)) :: ((placesM c i).map intP)))) [], .c (.p (intP (rankM c i))) [], .x (intP (totalM c i)), .x (intP x100)]) (l := [_, _, [(intP (i : Int)), (intP (rankM c i)), (intP (totalM c i)), (intP x100)].length = 4, (((intP (totalM c i)) :: ((placesM c i).map intP)) ++ [])[2]? = some (intP x100), 0 ≤ (1 : Int) ∧ (1 : Int) < (61 : Int), (((intP (totalM c i)) :: ((placesM c i).map intP)) ++ [])[0]? = some (intP (totalM c i)), FC Tryz.prog 104 [(.p (cupP c)), (.p (intP (i : Int)))] [] 3 (.p (intP (rankM c i))) [], ((intP (totalM c i)) :: ((placesM c i).map intP)).length = 62 ∧ 0 + 62 ≤ [(intP 0), (intP 0), (intP 0), (intP 0), (intP 0), (intP 0), (intP 0), (intP 0), (intP 0), (intP 0), (intP 0), (intP 0), (intP 0), (intP 0), (intP 0), (intP 0), (intP 0), (intP 0), (intP 0), (intP 0), (intP 0), (intP 0), (intP 0), (intP 0), (intP 0), (intP 0), (intP 0), (intP 0), (intP 0), (intP 0), (intP 0), (intP 0), (intP 0), (intP 0), (intP 0), (intP 0), (intP 0), (intP 0), (intP 0), (intP 0), (intP 0), (intP 0), (intP 0), (intP 0), (intP 0), (intP 0), (intP 0), (intP 0), (intP 0), (intP 0), (intP 0), (intP 0), (intP 0), (intP 0), (intP 0), (intP 0), (intP 0), (intP 0), (intP 0), (intP 0), (intP 0), (intP 0)].length, FC Tryz.prog 103 [(.p (cupP c)), (.p (intP (i : Int)))] [] 2 (.p (.agg ((intP (totalM c i)) :: ((placesM c i).map intP)))) [], _]) (by kernel_rfl) (gc h6 (gc h5 (gc (by first | decide | simp) (gc (at_nil (at_map (i := 1) h4)) (gc (by first | decide | simp) (gc (at_nil rfl) (gc (FV.fc (rank_ok c h1 i h2) rfl) (gc ⟨h3, by first | decide | simp⟩ (gc (FV.fc (form_ok c h1 i h2) rfl) (gc (q_lt h0) gn))))))))))
  exact raw.cast (by rw [eo'n, eo'c])
theorem table_L0_p1 {c : Cup} {i : Nat} {o : List (List Int)} (h0 : c.sk ≤ (i : Int)) : CodeOK Tryz.prog 0 zK5c4 (table_S0 c i o.length (o.flatten.map intP)) (.exit 0) (table_S0 c i o.length (o.flatten.map intP)) := by
  exact CodeOK.fin (g := ⟨(rng [(0, 2), (5, 1), (7, 12), (21, 19), (41, 1)]), [0, 1], [], []⟩) (o := [.b false]) (l := [_]) (by kernel_rfl) (gc (q_ltF h0) gn)
def wStep (a : Int × Int × List Int) (x : List Int) : Int × Int × List Int := if 60 < x.getD 1 0 then (a.1 + 1, a.2.1, a.2.2) else if a.2.1 ≤ x.getD 1 0 then (a.1 + 1, a.2.1 + 1, a.2.2.set (x.getD 0 0).toNat a.2.1) else a
def worstM (c : Cup) (s : Nat) : Int × Int × List Int := (rivM c s).foldl wStep (1, 1, List.replicate c.sk.toNat 0)
theorem rivM_mem {c : Cup} {s : Nat} {x : List Int} (h : x ∈ rivM c s) : ∃ i : Nat, (i : Int) < c.sk ∧ i ≠ s ∧ x = [(i : Int), rivPl c s i] ∧ 0 < rivPl c s i := rivL_mem ((isort_mem _ _ _).1 h)
theorem rivM_len (c : Cup) (s : Nat) : (rivM c s).length ≤ c.sk.toNat := by
  unfold rivM
  rw [isort_length]
  have := flatMap_len (rivG_len c s) (List.range c.sk.toNat)
  rwa [List.length_range] at this
theorem worst_ok (c : Cup) (s : Nat) (h : lastE c (s : Int) = 0) {base : Nat} : FV Tryz.prog 55 [.p (cupP c), .p (intP (s : Int))] base (.tup [.p (intP (worstM c s).1), .p (intsP (worstM c s).2.2), .p (intP 0)]) [] := by
  obtain ⟨hV, hs0, hs, hra⟩ := lastE_zero h
  have h1 := hV.sk1
  have h2 := hV.sk2
  have hu : uni 2 (rivM c s) := fun x hx => by obtain ⟨i, _, _, rfl, _⟩ := rivM_mem hx; rfl
  have hll := rivM_len c s
  have hL := LoopOK.range (P := Tryz.prog) (k := 0) (b := zK5c3) (e := .exit 0) (fun i (a : Int × Int × List Int) => worst_S0 c s i a.1 a.2.1 a.2.2.length (a.2.2.map intP)) (fun a => worst_S0 c s (rivM c s).length a.1 a.2.1 a.2.2.length (a.2.2.map intP)) wStep (fun i a => 0 ≤ a.1 ∧ a.1 ≤ 1 + i ∧ 0 ≤ a.2.1 ∧ a.2.1 ≤ 1 + i ∧ a.2.2.length = c.sk.toNat) (by simp) (rivM c s) (a0 := (1, 1, List.replicate c.sk.toNat 0)) (by simp)
    (fun i x a hx hI => by
      obtain ⟨q1, q2, q3, q4, q5⟩ := hI
      obtain ⟨k, hk, _, rfl, hp⟩ := rivM_mem (List.mem_of_getElem? hx)
      have hi := lt_of_at hx
      have hbd := rivPl_bd c s k
      unfold wStep
      simp only [List.getD_cons_succ, List.getD_cons_zero]
      by_cases c1 : 60 < rivPl c s k
      · rw [if_pos c1]
        exact ⟨⟨by simp; omega, by simp; omega, by simp; omega, by simp; omega, q5⟩, worst_L0_p0 (by omega) hx hu c1 (by unfold inR; omega) (inR_nat (by omega)) rfl rfl⟩
      · rw [if_neg c1]
        by_cases c2 : a.2.1 ≤ rivPl c s k
        · rw [if_pos c2]
          have hkl : k < a.2.2.length := by omega
          exact ⟨⟨by simp; omega, by simp; omega, by simp; omega, by simp; omega, by simpa using q5⟩, worst_L0_p1 (by omega) hx hu (by omega) c2 (x102 := a.2.2[k]) (by rw [Int.toNat_natCast]; exact List.getElem?_eq_getElem hkl) (by omega) (by simp; omega) (by unfold inR; omega) (by unfold inR; omega) (inR_nat (by omega)) rfl rfl rfl (by simp) (by simp [List.map_set])⟩
        · rw [if_neg c2]
          exact ⟨⟨by omega, by omega, by omega, by omega, q5⟩, worst_L0_p2 (by omega) hx hu (by omega) (by omega) (inR_nat (by omega)) rfl⟩)
    (fun a _ => worst_L0_p3 (by omega))
  refine worst_p1 (s := s) hV.small h (by omega) ⟨hV, by omega, hs⟩ (i'0 := (rivM c s).length) (nx'2 := (worstM c s).2.1) ?_
  simpa [worstM] using hL
def tabL (c : Cup) : List (List Int) := (List.range c.sk.toNat).map fun (i : Nat) => [(i : Int), rankM c i, totalM c i, (placesM c i).getD 1 0]
def tableM (c : Cup) : List (List Int) := isort (ltK 1) (tabL c)
theorem foldl_mapL {g : Nat → List Int} : ∀ (l : List Nat) (a : List (List Int)), l.foldl (fun acc s => acc ++ [g s]) a = a ++ l.map g
  | [], a => by simp
  | x :: l, a => by rw [List.foldl_cons, foldl_mapL l]; simp
theorem table_ok (c : Cup) (hV : KL.Valid c) {base : Nat} : FV Tryz.prog 34 [.p (cupP c)] base (.tup [.p (.sl (tableM c).length ((tableM c).flatten.map intP)), .p (intP 0)]) [] := by
  have h1 := hV.sk1
  have h2 := hV.sk2
  have hpl : ∀ i, (placesM c i).length = 61 := fun i => by unfold placesM; rw [KL.placesUpTo_length]
  have hL := LoopOK.times (P := Tryz.prog) (k := 0) (b := zK5c4) (e := .exit 0) (fun i (o : List (List Int)) => table_S0 c i o.length (o.flatten.map intP)) (fun o => table_S0 c c.sk.toNat o.length (o.flatten.map intP)) (fun acc i => acc ++ [[(i : Int), rankM c i, totalM c i, (placesM c i).getD 1 0]]) (fun i o => o.length ≤ i) (by simp) c.sk.toNat (a0 := []) (by simp)
    (fun i o hi hI => ⟨by simp; omega, table_L0_p0 (x100 := (placesM c i).getD 1 0) (by omega) hV (by omega) (by simp [hpl]) (by
      have := hpl i
      rw [List.getElem?_eq_getElem (by omega), List.getD_eq_getElem?_getD, List.getElem?_eq_getElem (by omega)]; rfl) (by simp; omega) (inR_nat (by omega)) rfl (by simp) (by simp)⟩)
    (fun o _ => table_L0_p1 (by omega))
  rw [foldl_mapL, List.nil_append] at hL
  exact table_p1 hV.small ((KL.valid_iff c).2 hV) hL (fun x hx => by rw [List.mem_map] at hx; obtain ⟨i, _, rfl⟩ := hx; rfl) (by simp; omega)
end
end KV
end Go.Proofs
section
namespace Go.Proofs
open Go.RowKit
namespace KV
variable {P : Program} {C C0 : Cx} {M M0 : Mem} {w w0 : World}

def Solid (w : World) (b : Nat) : Prop := ∃ o : Obj, w.heap[b]? = some o ∧ o.isCells = true
theorem solid_cell {b o : Nat} {v : Value} (h : w.cell? ⟨b, o, none⟩ = some v) : Solid w b := cells_of_cell h
theorem solid_row {b ty : Nat} {arr : Array Value} {fr : Nat × Nat} (h : w.heap[b]? = some (.cells arr ty fr)) : Solid w b := ⟨_, h, rfl⟩

theorem RepP.shrink {F F' : Nat → Prop} {x : PV} {u : Value} (h : RepP F w x u) (hF : ∀ b, F b → Solid w b → F' b) : RepP F' w x u := by
  induction h with
  | v x => exact .v x
  | sl n cs p cap us h1 h2 h3 _ h5 ih =>
    refine .sl n cs p cap us h1 h2 (fun i hi => ?_) ih h5
    obtain ⟨b, o, hp, hb, hc⟩ := h3 i hi
    exact ⟨b, o, hp, hF b hb (solid_cell hc), hc⟩
  | agg cs vs h0 h1 _ ih => exact .agg cs vs h0 h1 ih
theorem Rep.shrink {F' : Nat → Prop} {x : AV} {u : Value} (h : Rep C M w x u) (hF : ∀ b, C.F b → Solid w b → F' b) : Rep ⟨C.ι, C.κ, F', []⟩ M w x u := by
  induction h with
  | p x u h => exact .p x u (h.shrink hF)
  | any u => exact .any u
  | kb b => exact .kb b
  | yld l => exact .yld l
  | own id u h0 ha h => exact .own id u h0 ha h
  | arr id off n u h0 ha h => exact .arr id off n u h0 ha h
  | ptr id off u h0 ha h => exact .ptr id off u h0 ha h
  | mp id u h0 ha h => exact .mp id u h0 ha h
  | rp cs off b o us h1 h2 h3 => exact .rp cs off b o us (fun i hi => ⟨hF b (h1 i hi).1 (solid_cell (h1 i hi).2), (h1 i hi).2⟩) (fun i hi => (h2 i hi).shrink hF) h3
  | agg cs vs h0 h1 _ ih => exact .agg cs vs h0 h1 ih
  | tup cs vs h1 _ ih => exact .tup cs vs h1 ih
  | fn f cs ds us vs h1 h2 _ _ ih1 ih2 => exact .fn f cs ds us vs h1 h2 ih1 ih2

def NoMap (M : Mem) : Prop := ∀ (i : Nat) (es : List (Value × AV)) (cl : Nat), M[i]? ≠ some (some (.mp es cl))

theorem inv_shrink {M' : Mem} {W : World} (hn : NoMap M') (hF : ∀ b, C.F b → b < w.heap.size) {C' : Cx} (hM : MemOK P C' M' W) (f : Fr C M w C' M' W) :
    ∃ C'', MemOK P C'' M' W ∧ Fr C M w C'' M' W ∧ (∀ b, C''.F b → b < w.heap.size ∨ Solid W b) := by
  refine ⟨⟨C'.ι, C'.κ, fun b => C'.F b ∧ (b < w.heap.size ∨ Solid W b), []⟩, ⟨fun i ty n cs hm => ?_, fun i ty cs hm => ?_, fun i es cl hm => absurd hm (hn _ _ _), hM.inj, fun i o b ho hl hb hf => hM.nF i o b ho hl hb hf.1, fun b hb => hM.Fs b hb.1, hM.lt⟩,
    ⟨f.os, f.tape, f.out, f.size, f.keep, f.ids, f.row, f.liv, f.new, fun b hb => ⟨f.F1 b hb, .inl (hF b hb)⟩, fun b hb => f.F2 b hb.1⟩, fun b hb => hb.2⟩
  · rcases hM.row _ _ _ _ hm with h4 | ⟨b, arr, inf, q0, q1, q2, q3, q4, q5, q6, q7, q8⟩
    · exact .inl h4
    · exact .inr ⟨b, arr, inf, q0, q1, q2, q3, q4, q5, q6, fun j hj => (q7 j hj).shrink (fun b hb hs => ⟨hb, .inr hs⟩), q8⟩
  · obtain ⟨b, arr, q0, q1, q2, q3, q4⟩ := hM.box _ _ _ hm
    exact ⟨b, arr, q0, q1, q2, fun j hj => (q3 j hj).shrink (fun b hb hs => ⟨hb, .inr hs⟩), q4⟩

def InvR (P : Program) (C : Cx) (M : Mem) (w : World) (M' : Mem) (W : World) : Prop := ∃ C', MemOK P C' M' W ∧ Fr C M w C' M' W

theorem not_solid {W : World} {b : Nat} {o : Obj} (h : W.heap[b]? = some o) (ho : o.isCells = false) : ¬ Solid W b := fun ⟨o', h', hc⟩ => by rw [h] at h'; cases h'; rw [ho] at hc; cases hc

theorem InvR.own {M' : Mem} {W W' : World} {row : Option Nat} (hn : NoMap M') (hF : ∀ b, C.F b → b < w.heap.size) (h : InvR P C M w M' W) (hg : W.grownBy W' row)
    (hr : ∀ r, row = some r → w.heap.size ≤ r ∧ ∃ o : Obj, W.heap[r]? = some o ∧ o.isCells = false) : InvR P C M w M' W' := by
  obtain ⟨C1, h1, h2⟩ := h
  obtain ⟨C', hM, f, hS⟩ := inv_shrink hn hF h1 h2
  have hsame : ∀ b, b < W.heap.size → (b < w.heap.size ∨ Solid W b) → W'.heap[b]? = W.heap[b]? := fun b hb hd => hg.block b hb (fun e => by
    obtain ⟨q1, o, q2, q3⟩ := hr b e.symm
    rcases hd with hd | hd
    · omega
    · exact not_solid q2 q3 hd)
  have hFz : ∀ b, C'.F b → W'.heap[b]? = W.heap[b]? := fun b hb => hsame b (hM.Fs b hb) (hS b hb)
  have hL : Le C' C' M' M' W W' := ⟨fun _ o h => ⟨o, h⟩, fun _ _ _ _ _ cs h => ⟨cs, h⟩, fun _ o h o' h' hl => by rw [h] at h'; cases h'; exact ⟨hl, rfl, rfl⟩, fun _ h => h, hFz⟩
  refine ⟨C', ⟨fun i ty n cs hm => ?_, fun i ty cs hm => ?_, fun i es cl hm => absurd hm (hn _ _ _), hM.inj, hM.nF, fun b hb => Nat.lt_of_lt_of_le (hM.Fs b hb) hg.size, fun i o b ho hl hb => Nat.lt_of_lt_of_le (hM.lt i o b ho hl hb) hg.size⟩,
    ⟨hg.os.trans f.os, hg.tape.trans f.tape, hg.output.trans f.out, Nat.le_trans f.size hg.size, fun b hb hno => (hsame b (Nat.lt_of_lt_of_le hb f.size) (.inl hb)).trans (f.keep b hb hno), f.ids, f.row, f.liv, f.new, f.F1, f.F2⟩⟩
  · rcases hM.row _ _ _ _ hm with h4 | ⟨b, arr, inf, q0, q1, q2, q3, q4, q5, q6, q7, q8⟩
    · exact .inl h4
    · exact .inr ⟨b, arr, inf, q0, (hsame b (Array.getElem?_eq_some_iff.1 q1).1 (.inr (solid_row q1))).trans q1, q2, q3, q4, q5, q6, fun j hj => (q7 j hj).mono hL.F hL.fz, q8⟩
  · obtain ⟨b, arr, q0, q1, q2, q3, q4⟩ := hM.box _ _ _ hm
    exact ⟨b, arr, q0, (hsame b (Array.getElem?_eq_some_iff.1 q1).1 (.inr (solid_row q1))).trans q1, q2, fun j hj => (q3 j hj).mono hL, q4⟩

structure KpG (F : Nat → Prop) (A B : World) : Prop where
  size : A.heap.size ≤ B.heap.size
  same : ∀ b, F b → B.heap[b]? = A.heap[b]?
theorem KpG.refl (F : Nat → Prop) (A : World) : KpG F A A := ⟨Nat.le_refl _, fun _ _ => rfl⟩
theorem KpG.trans {F : Nat → Prop} {A B D : World} (h : KpG F A B) (k : KpG F B D) : KpG F A D := ⟨Nat.le_trans h.size k.size, fun b hb => (k.same b hb).trans (h.same b hb)⟩

def IterOK (P : Program) {α : Type} (g : AV) (encs : α → Array Value) (gf N : Nat) (S : List α → Prop) : Prop := ∀ (C : Cx) (M : Mem) (w : World) (u : Value), Rep C M w g u → (∀ b, C.F b → b < w.heap.size) →
  ∃ lb Sp, u = .func (.func gf) #[] lb ∧ SeqStopsK Fence.wide 2 P gf lb encs (KpG C.F) S Sp N w

theorem room_fen {ro : Option Nat} {n : Nat} : (Fen ro).room n := fun d hd => by cases hd
theorem wpIn_any_n {ro : Option Nat} {n m : Nat} {c : Code} {Q : Exit → Act → World → Prop} {a : Act} (h : c.wpIn (Fen ro) n P Q a w) : c.wpIn (Fen ro) m P Q a w := fun b k cs hro hb _ => h b k cs hro hb room_fen

theorem nosolid_live {C : Cx} {M : Mem} {W : World} (hM : MemOK P C M W) (hn : NoMap M) {b : Nat} {o : Obj} (h : W.heap[b]? = some o) (ho : o.isCells = false) : ∀ (id : Nat) (x : AO), M[id]? = some (some x) → x.live = true → C.ι id ≠ some b := fun id x hx hl hb => by
  cases x with
  | row ty n cs =>
    rcases hM.row _ _ _ _ hx with ⟨h1, _⟩ | ⟨b', arr, i, h1, h2, _⟩
    · rw [hb] at h1; cases h1
    · rw [hb] at h1; cases h1; exact not_solid h ho (solid_row h2)
  | box ty cs =>
    obtain ⟨b', arr, h1, h2, _⟩ := hM.box _ _ _ hx
    rw [hb] at h1; cases h1; exact not_solid h ho (solid_row h2)
  | mp es cl => exact hn _ _ _ hx
  | dead => cases hl

theorem zip2' (p q : Nat) (a b : Value) (t : Array Value) : (#[p, q].zip #[a, b]).foldl (fun t (x : Nat × Value) => t.setIfInBounds x.1 x.2) t = (t.setIfInBounds p a).setIfInBounds q b := by simp

theorem CodeOK.rangeFunc {α : Type} {k kb gi gf p1 p2 d id ty : Nat} {pos : String} {body : Code} {st : St} {g : AV} {N : Nat} {S : List α → Prop} (Mx : List α → Mem) (v1 v2 : α → Value) (t' : List α → α → List AV) (M' : Mem)
    (hg : st.t[gi]? = some g) (h0 : Mx [] = st.m) (hit : IterOK P g (fun x => #[v1 x, v2 x]) gf N S) (eg : ∀ args w, (callFunc gf args).run P w = .ok (.enter gf args) w)
    (hmp : ∀ pre, NoMap (Mx pre)) (hlen : ∀ pre, (Mx pre).length ≤ kb) (hnrf : nrf body = true)
    (hp : ∀ x, (put (put st.t (some p1) (.p (.v (v1 x)))) (some p2) .any)[p1]? = some (.p (.v (v1 x))))
    (hbody : ∀ pre x, pre.length < N → CodeOK P kb body ⟨put (put (put st.t (some p1) (.p (.v (v1 x)))) (some p2) .any) (some d) (.p (.v (v1 x))), Mx pre⟩ .normal ⟨t' pre x, Mx (pre ++ [x])⟩)
    (hS : ∀ xs, S xs → Mx xs = M') :
    CodeOK P k (.rangeFunc (.tmp gi) #[p1, p2] (.region id #[{ dst := some d, op := .assign (.tmp p1), type := ty, pos := pos, after := #[], guard := none }] false) body) st .normal ⟨st.t, M'⟩ := by
  intro C0 M0 w0 a w hk hs ro hro n
  have hro' : ro = none := hro.resolve_right (by simp [nrf])
  subst hro'
  refine wpIn_any_n (n := 3) ?_
  obtain ⟨C, hSl, hM, hF, hD⟩ := hs
  obtain ⟨lb, Sp, hu, hseq⟩ := hit C st.m w _ (hSl.at hg) hM.Fs
  refine wpIn_rangeFunc_ownH (F := Fen none) (n := 3) rfl (by omega) (gf := gf) (lb := lb) hu trivial eg hseq (fun h k => h.trans k)
    (fun W l o o' hl h1 h2 h3 => ⟨by simp, fun b hb => (grownBy_putObj' W l o').block b (Nat.lt_of_lt_of_le (hM.Fs b hb) (Nat.le_trans hl (Nat.le_of_lt (Array.getElem?_eq_some_iff.1 h1).1))) (fun e => by cases e; have := hM.Fs _ hb; omega)⟩)
    (Below.refl _ _) (fun _ => rfl)
    (fun pre W => InvR P C st.m w (Mx pre) W) (fun _ _ _ => False)
    (fun pre X Y row hs hg hr => hs.own (hmp pre) hM.Fs hg hr) (fun _ _ _ _ _ hs _ _ => hs)
    ⟨C, by rw [h0]; exact hM, by rw [h0]; exact Fr.refl _ _ _⟩
    (fun x a' _ => a' = ({ tmps := (a.tmps.setIfInBounds p1 (v1 x)).setIfInBounds p2 (v2 x), defers := [] } : Act).put (some d) (({ tmps := (a.tmps.setIfInBounds p1 (v1 x)).setIfInBounds p2 (v2 x), defers := [] } : Act).eval (.tmp p1)))
    (fun _ _ _ _ _ _ hs _ _ => hs) ?assign ?body ?done ?stop
  case assign =>
    intro l pre x W K hI hK
    rw [zip2']
    refine wpIn_region_lit (wpListIn_plain rfl fun K' hK' => ?_)
    unfold Oper.wpIn
    refine ⟨fun f _ => trivial, ?_⟩
    rw [Oper.semAt_plain _ _ _ (by intro c hc'; cases hc')]
    simp only [execOp, Sem.run_pure]
    exact hK' _ _ (wpListIn_nil (hK _ _ (KeepsFrom.refl _ _) (KpG.refl _ _) hI rfl))
  case body =>
    rintro l pre x a' W hl _ hI rfl hlt
    obtain ⟨C', hM', hF'⟩ := hI
    have hSW := hSl.le (hM.le hF')
    have hS1 : Slots C' (Mx pre) W (put (put (put st.t (some p1) (.p (.v (v1 x)))) (some p2) .any) (some d) (.p (.v (v1 x)))) (({ tmps := (a.tmps.setIfInBounds p1 (v1 x)).setIfInBounds p2 (v2 x), defers := [] } : Act).put (some d) (({ tmps := (a.tmps.setIfInBounds p1 (v1 x)).setIfInBounds p2 (v2 x), defers := [] } : Act).eval (.tmp p1))).tmps := by
      have s1 : Slots C' (Mx pre) W (put (put st.t (some p1) (.p (.v (v1 x)))) (some p2) .any) ((({ tmps := a.tmps, defers := [] } : Act).put (some p1) (v1 x)).put (some p2) (v2 x)).tmps :=
        Slots.put (Slots.put (a := { tmps := a.tmps, defers := [] }) hSW (.p _ _ (.v _))) (.any _)
      exact Slots.put s1 (s1.at (hp x))
    refine wpIn_mono (hbody pre x hlt (C'.with []) (Mx pre) W _ W (hlen pre) ⟨C', hS1, hM', (Fr.refl _ _ _).based [], .nil rfl⟩ (some l) (.inr hnrf) 1) ?_
    rintro e a2 W2 ⟨rfl, C2, _, hM2, hF2, _⟩
    have hF2 := hF2.unbased
    refine ⟨⟨hF2.size, fun b o _ hb ho => (hF2.keep b (Array.getElem?_eq_some_iff.1 hb).1 (nosolid_live hM' (hmp pre) hb ho)).trans hb⟩, ⟨hF2.size, fun b hb => (hF2.keep b (Nat.lt_of_lt_of_le (hM.Fs b hb) hF'.size) (fun id o ho hl he => hM'.nF id o b ho hl he (hF'.F1 b hb)))⟩, C2, hM2, hF'.trans hF2⟩
  case done =>
    intro D xs W hD' hSx hI hDm
    obtain ⟨C1, h1, h2⟩ := hI
    rw [hS xs hSx] at h1 h2
    have hnm : NoMap M' := hS xs hSx ▸ hmp xs
    obtain ⟨C', hM', f, hSo⟩ := inv_shrink hnm hM.Fs h1 h2
    refine ⟨rfl, C', hSl.le (hM.le f), hM', hF.trans f, ?_⟩
    obtain ⟨⟨l, e1, e2, e3⟩, hR⟩ := hD.fr hM f
    obtain ⟨⟨l', e1', _, e3'⟩, _⟩ := hD
    have hll : l = l' := by
      have := e1.symm.trans e1'
      exact (List.map_inj_right (fun x y h => by simpa [mark] using h)).1 this
    refine ⟨⟨D :: l, by rw [e1]; rfl, List.nodup_cons.2 ⟨fun hin => ?_, e2⟩, fun D' hD2 => ?_⟩, hR⟩
    · rw [hll] at hin
      have := (Array.getElem?_eq_some_iff.1 (e3' D hin).1).1
      omega
    · rcases List.mem_cons.1 hD2 with rfl | hin
      · refine ⟨hDm, Nat.le_trans hF.size hD', fun hf => ?_⟩
        rcases hSo _ hf with h | h
        · omega
        · exact not_solid hDm rfl h
      · exact e3 D' hin
  case stop =>
    intro D c pre W _ _ h _
    exact h.elim
def rfS (st : St) (p1 p2 d : Nat) (x : PV) : St := ⟨put (put (put st.t (some p1) (.p x)) (some p2) .any) (some d) (.p x), st.m⟩
theorem CodeOK.rangeAcc {α β β' : Type} {k kb gi gf p1 p2 d id ty : Nat} {pos : String} {body : Code} {g : AV} {N : Nat} {xs : List β} (val : α → β) (S : β' → St) (T : List AV) (v1 v2 : α → Value) (f : β' → α → β') (a0 : β') (Inv : Nat → β' → Prop) (R : List β → β')
    {cc : Code} (hcc : cc = .rangeFunc (.tmp gi) #[p1, p2] (.region id #[{ dst := some d, op := .assign (.tmp p1), type := ty, pos := pos, after := #[], guard := none }] false) body) (hT : ∀ acc, (S acc).t = T) (hg : T[gi]? = some g) (hit : IterOK P g (fun x => #[v1 x, v2 x]) gf N (fun ys => ys.map val = xs)) (eg : ∀ args w, (callFunc gf args).run P w = .ok (.enter gf args) w)
    (hmp : ∀ acc, NoMap (S acc).m) (hlen : ∀ acc, (S acc).m.length ≤ kb) (hnrf : nrf body = true)
    (hp : ∀ x, (put (put T (some p1) (.p (.v (v1 x)))) (some p2) .any)[p1]? = some (.p (.v (v1 x))))
    (h0 : Inv 0 a0) (hInv : ∀ i acc x, i < N → Inv i acc → Inv (i + 1) (f acc x))
    (hbody : ∀ i acc x, i < N → Inv i acc → CodeOK P kb body (rfS (S acc) p1 p2 d (.v (v1 x))) .normal (S (f acc x)))
    (hR : ∀ ys : List α, ys.foldl f a0 = R (ys.map val)) :
    CodeOK P k cc (S a0) .normal (S (R xs)) := by
  subst hcc
  have hI' : ∀ (pre : List α) (i : Nat) (acc : β'), Inv i acc → i + pre.length ≤ N → Inv (i + pre.length) (pre.foldl f acc) := by
    intro pre
    induction pre with
    | nil => intro i acc h _; exact h
    | cons x pre ih =>
      intro i acc h hl
      rw [List.length_cons] at hl ⊢
      have := ih (i + 1) (f acc x) (hInv i acc x (by omega) h) (by omega)
      rwa [show i + 1 + pre.length = i + (pre.length + 1) by omega] at this
  have hI : ∀ (pre : List α), pre.length ≤ N → Inv pre.length (pre.foldl f a0) := fun pre hl => by
    have := hI' pre 0 a0 h0 (by omega)
    rwa [Nat.zero_add] at this
  have := CodeOK.rangeFunc (P := P) (k := k) (kb := kb) (d := d) (id := id) (ty := ty) (pos := pos) (body := body) (st := S a0) (g := g) (S := fun ys => ys.map val = xs) (fun pre => (S (pre.foldl f a0)).m) v1 v2 (fun pre x => T) (S (R xs)).m
    (by rw [hT]; exact hg) rfl hit eg (fun pre => hmp _) (fun pre => hlen _) hnrf (by rw [hT]; exact hp)
    (fun pre x hl => by
      have h1 := hbody pre.length (pre.foldl f a0) x hl (hI pre (by omega))
      unfold rfS at h1
      rw [hT] at h1 ⊢
      rw [List.foldl_append]
      have h2 : S (f (pre.foldl f a0) x) = ⟨T, (S (f (pre.foldl f a0) x)).m⟩ := by rw [← hT (f (pre.foldl f a0) x)]
      rw [h2] at h1
      exact h1)
    (fun ys hy => by rw [hR, hy])
  have h3 : S (R xs) = ⟨(S a0).t, (S (R xs)).m⟩ := by rw [hT, ← hT (R xs)]
  rw [h3]
  exact this
end KV
end Go.Proofs
end
section
namespace Go.Proofs
open Go.RowKit Go.Lib Go.Sort Go.Shelf
namespace KV
open KL
attribute [local go_sem] Oper.semAt_some

theorem KpG.below {F : Nat → Prop} {A B : World} (h : Below A.heap.size A B) (hF : ∀ b, F b → b < A.heap.size) : KpG F A B := ⟨h.size, fun b hb => h.block b (hF b hb)⟩

set_option maxRecDepth 1000000 in
set_option maxHeartbeats 2000000 in
theorem others_iterG (c : Cup) (hV : Valid c) (F0 : Nat → Prop) (vp vd : Value) (n l b1 o1 b2 o2 : Nat) (hn : 1 ≤ n) (skier : Nat) (J Jx : List Nat → World → Prop)
    (hY : ∀ pre (x : Nat) W, (x : Int) < c.sk → x ≠ skier → J pre W → pre.length < (oth skier c.sk.toNat).length → YieldAt Fence.wide (n - 1) Tryz.prog l #[.int .i64 x, .agg (formM c x)] W fun e W' =>
      (e = .returned (.bool true) ∧ J (pre ++ [x]) W' ∧ KpG F0 W W') ∨ (e = .returned (.bool false) ∧ Jx (pre ++ [x]) W'))
    (W : World) (hJ : AbidesFrom W.heap.size J) (hF : ∀ b, F0 b → b < W.heap.size)
    (hc : ∀ W', KpG F0 W W' → CupAt W' (.agg #[.int .i64 c.sk, .int .i64 c.ra, .int .i64 c.be, vp, vd]) c)
    (hk : ∀ W', KpG F0 W W' → W'.cell? ⟨b1, o1, none⟩ = some (.int .i64 c.sk) ∧ W'.cell? ⟨b1, o1 + 1, none⟩ = some (.int .i64 c.ra) ∧ W'.cell? ⟨b1, o1 + 2, none⟩ = some (.int .i64 c.be) ∧ W'.cell? ⟨b1, o1 + 3, none⟩ = some vp ∧ W'.cell? ⟨b1, o1 + 4, none⟩ = some vd ∧ W'.cell? ⟨b2, o2, none⟩ = some (.int .i64 skier)) (h0 : J [] W) :
    CallsIn Fence.wide n Tryz.prog 159 #[.func (.yield l) #[] #[], .pointer (some ⟨b1, o1, none⟩), .pointer (some ⟨b2, o2, none⟩)] W fun e W' => (∃ v, e = .returned v) ∧
      ((∃ ys, ys = oth skier c.sk.toNat ∧ J ys W') ∨ (∃ pre, pre <+: oth skier c.sk.toNat ∧ Jx pre W')) := by
  have HJ := hid hJ
  have HY := hid hY
  have HC := hid hc
  have HKC := hid hk
  have HF0 := hid hF
  have HJ0 := hid h0
  have hsk := hV.sk2
  have hsk1 := hV.sk1
  obtain ⟨k0, k1, k2, k3, k4, ks⟩ := hk W (KpG.refl _ _)
  clear hJ hY hc h0 hk hF
  refine callsIn_of_wp Tryz.func159 rfl trivial ?_ rfl
  simp only [Tryz.ntmps159, List.size_toArray, List.length_cons, List.length_nil, Nat.reduceAdd, Nat.reduceSub, Array.replicate_succ, Array.replicate_zero, List.push_toArray, List.append_toArray, List.nil_append, List.cons_append]
  gi_wp2
  clear k0 k1 k2 k3 k4 ks
  gi_loopw [8] (fun i wr => ∃ k : Nat, (k : Int) ≤ c.sk ∧ i = .int .i64 k ∧ J (oth skier k) wr ∧ KpG F0 W wr)
    (fun i _ => c.sk.toNat - (intOf i).toNat)
  case atStart => exact ⟨0, by omega, rfl, HJ0.out, KpG.refl _ _⟩
  case round =>
    obtain ⟨k, hk, rfl, hJk, hK⟩ := hrel
    have HJK := hid hJk
    have HK := hid hK
    obtain ⟨k0, k1, k2, k3, k4, ks⟩ := HKC.out wr hK
    have HFR := hid (fun b (hb : F0 b) => Nat.lt_of_lt_of_le (HF0.out b hb) HK.out.size)
    clear hJk hK
    by_cases hlt : (k : Int) < c.sk
    · by_cases hks : k = skier
      · subst hks
        have HE := hid (oth_succ_same k)
        have hk2 : (k : Int) < 12 := by omega
        gi_wp2
        refine ⟨trivial, ?_⟩
        gi_wp2
        refine ⟨fun _ h => (by cases h), ?_⟩
        gi_wp2
        go_roundw
        case rel => exact ⟨k + 1, by omega, by go_num, by rw [HE.out]; exact HJK.out, HK.out⟩
        case measure => simp [intOf]; omega
      · have HE := hid (oth_succ_other skier k hks)
        have hne : ((k : Int) != skier) = true := by simp; omega
        have HFM := hid (form_any c hV _ k wr (HC.out wr HK.out) hlt)
        have HL := hid (oth_lt skier (show k < c.sk.toNat by omega) hks)
        have HP := hid (oth_prefix skier (show k + 1 ≤ c.sk.toNat by omega))
        have HKS := hid hks
        have HLT := hid hlt
        have hk2 : (k : Int) < 12 := by omega
        have HWR := hid (fun w1 (hb1 : Below wr.heap.size wr w1) => HJ.out _ wr w1 none HJK.out (grown_of_below hb1 none) (fun r e => by cases e))
        have HKD := hid (fun w1 (hb1 : Below wr.heap.size wr w1) => HK.out.trans (KpG.below hb1 HFR.out))
        gi_wp2_with (first
          | (refine ⟨trivial, ?_⟩; gi_at_call 103; refine (callsIn_wide.2 HFM.out).mono ?_; clear HFM; rintro e w1 ⟨rfl, hb1⟩; have HB1 := hid hb1; clear hb1; obtain ⟨fn, tmps, assign, body, hy, hR⟩ := HY.out _ k w1 HLT.out HKS.out (HWR.out w1 HB1.out) HL.out)
          | (refine hR.mono ?_; clear hR; rintro e w3 (⟨rfl, hJ3, hK3⟩ | ⟨rfl, hx⟩)))
        · go_roundw
          case rel => exact ⟨k + 1, by omega, by go_num, by rw [HE.out]; exact hJ3, (HKD.out w1 HB1.out).trans hK3⟩
          case measure => simp [intOf]; omega
        · refine bodyPost_ret (results_none rfl _ _ _) rfl ?_
          exact ⟨⟨_, rfl⟩, .inr ⟨oth skier k ++ [k], HE.out ▸ HP.out, hx⟩⟩
    · have HE := hid (show k = c.sk.toNat by omega)
      gi_wp2
      go_end0
      exact ⟨⟨_, rfl⟩, .inl (HE.out ▸ HJK.out)⟩

theorem mem_froz {P : Program} {C : Cx} {M : Mem} {w w' : World} (hM : MemOK P C M w) (hb : Below w.heap.size w w') (X : Nat → Prop) (hX : ∀ b, X b → w.heap.size ≤ b ∧ b < w'.heap.size) :
    MemOK P ⟨C.ι, C.κ, fun b => C.F b ∨ X b, []⟩ M w' ∧ Fr C M w ⟨C.ι, C.κ, fun b => C.F b ∨ X b, []⟩ M w' := by
  have hL : Le C ⟨C.ι, C.κ, fun b => C.F b ∨ X b, []⟩ M M w w' := ⟨fun _ o h => ⟨o, h⟩, fun _ _ _ _ _ cs h => ⟨cs, h⟩, fun _ o h o' h' hl => by rw [h] at h'; cases h'; exact ⟨hl, rfl, rfl⟩, fun _ h => .inl h, fun b h => hb.block b (hM.Fs b h)⟩
  refine ⟨⟨fun i ty' n cs hm => ?_, fun i ty' cs hm => ?_, fun i es cl hm => ?_, hM.inj, fun i o b ho hl hbb hf => ?_, fun b h => ?_, fun i x b hm hl hbb => Nat.lt_of_lt_of_le (hM.lt i x b hm hl hbb) hb.size⟩,
    ⟨hb.os, hb.tape, hb.output, hb.size, fun b h _ => hb.block b h, fun _ x h => ⟨⟨x, h⟩, rfl, rfl⟩, fun _ _ _ _ _ cs h => ⟨cs, h⟩, fun _ o h o' h' hl => by rw [h] at h'; cases h'; exact hl, fun i x _ h hl hbb => .inr ⟨i, x, h, hl, hbb⟩, fun _ h => .inl h, fun b h => h.elim .inl (fun h => .inr (.inl (hX b h).1))⟩⟩
  · rcases hM.row _ _ _ _ hm with h4 | ⟨b, arr, inf, q0, q1, q2, q3, q4, q5, q6, q7, q8⟩
    · exact .inl h4
    · exact .inr ⟨b, arr, inf, q0, (hb.block b (hM.lt i _ b hm rfl q0)).trans q1, q2, q3, q4, q5, q6, fun j hj => (q7 j hj).mono hL.F hL.fz, q8⟩
  · obtain ⟨b, arr, q0, q1, q2, q3, q4⟩ := hM.box _ _ _ hm
    exact ⟨b, arr, q0, (hb.block b (hM.lt i _ b hm rfl q0)).trans q1, q2, fun j hj => (q3 j hj).mono hL, q4⟩
  · obtain ⟨b, arr, q0, q1, q2, q3⟩ := hM.mp _ _ _ hm
    refine ⟨b, arr, q0, (hb.block b (hM.lt i _ b hm rfl q0)).trans q1, q2, fun j hj => ?_⟩
    obtain ⟨en, r1, r2, r3, r4⟩ := q3 j hj
    exact ⟨en, r1, r2, r3, r4.mono hL⟩
  · rcases hf with h | h
    · exact hM.nF i o b ho hl hbb h
    · have := hM.lt i o b ho hl hbb; have := (hX b h).1; omega
  · rcases h with h | h
    · exact Nat.lt_of_lt_of_le (hM.Fs b h) hb.size
    · exact (hX b h).2

def othA (c : KL.Cup) (s : Int) : AV := .fn 159 [] [.rp [intP c.sk, intP c.ra, intP c.be, intsP c.pts, rowsP c.done] 0, .rp [intP s] 0]
abbrev Oth (c : KL.Cup) (s : Nat) : Type := { x : Nat // (x : Int) < c.sk ∧ x ≠ s }

theorem others_fc (c : KL.Cup) (s : Nat) {bs : List (Nat × AO)} {base : Nat} : FC Tryz.prog 128 [.p (cupP c), .p (intP (s : Int))] bs base (othA c s) [] := fun M _ _ C w us hus hM n => by
  cases hus with
  | cons _ _ u us h1 h2 =>
    cases h2 with
    | cons _ _ u2 us2 h3 h4 =>
      cases h4
      cases h1 with
      | p _ _ h1 =>
        cases h3 with
        | p _ _ h3 =>
          cases h3
          obtain ⟨vp, vd, rfl, hp, hd, rp, rd⟩ := cup_of h1
          refine (callsIn_wide.2 (others_any c vp vd s w hp hd)).mono ?_
          rintro e w' ⟨rfl, rfl⟩
          have hb : Below w.heap.size w ((w.alloc (deskBox c vp vd)).alloc (.cells #[.int .i64 s] 3)) := ((Below.refl _ w).alloc (Nat.le_refl _) _).alloc (by simp) _
          obtain ⟨hM', hF'⟩ := mem_froz hM hb (fun b => w.heap.size ≤ b ∧ b < w.heap.size + 2) (fun b h => ⟨h.1, by have := h.2; simpa using this⟩)
          have hL := hM.le hF'
          have hbk : ((w.alloc (deskBox c vp vd)).alloc (.cells #[.int .i64 s] 3)).heap[w.heap.size]? = some (deskBox c vp vd) := by
            refine ((World.grownBy_alloc _ _ none).block _ (by simp) (by simp)).trans ?_
            exact heap_alloc_new w _
          have hbs : ((w.alloc (deskBox c vp vd)).alloc (.cells #[.int .i64 s] 3)).heap[w.heap.size + 1]? = some (.cells #[.int .i64 s] 3 (0, 0)) := by
            have := heap_alloc_new (w.alloc (deskBox c vp vd)) (.cells #[.int .i64 s] 3)
            simpa using this
          obtain ⟨k0, k1, k2, k3, k4⟩ := desk_cells hbk
          have rp' := rp.mono hL.F hL.fz
          have rd' := rd.mono hL.F hL.fz
          refine ⟨_, rfl, _, hF', hM', .fn 159 [] _ #[] _ rfl rfl (fun i hi => by simp at hi) (fun i hi => ?_)⟩
          have h5 : ∀ {u : Value} {l : List Int}, RepP C.F w (intsP l) u → u.oneCell' = true := fun h => by cases h; rfl
          have h6 : ∀ {u : Value} {l : List (List Int)}, RepP C.F w (rowsP l) u → u.oneCell' = true := fun h => by cases h; rfl
          have h5 := h5 rp
          have h6 := h6 rd
          match i, hi with
          | 0, _ =>
            refine Rep.rp _ 0 w.heap.size 0 (fun i => (#[Value.int .i64 c.sk, .int .i64 c.ra, .int .i64 c.be, vp, vd] : Array Value).getD i undef) (fun i hi => ⟨.inr ⟨by omega, by omega⟩, ?_⟩) (fun i hi => ?_) (fun i hi => ?_)
            · match i, hi with
              | 0, _ => exact k0
              | 1, _ => exact k1
              | 2, _ => exact k2
              | 3, _ => exact k3
              | 4, _ => exact k4
            · match i, hi with
              | 0, _ => exact .v _
              | 1, _ => exact .v _
              | 2, _ => exact .v _
              | 3, _ => exact rp'
              | 4, _ => exact rd'
            · match i, hi with
              | 0, _ => rfl
              | 1, _ => rfl
              | 2, _ => rfl
              | 3, _ => exact h5
              | 4, _ => exact h6
          | 1, _ =>
            refine Rep.rp _ 0 (w.heap.size + 1) 0 (fun i => (#[Value.int .i64 s] : Array Value).getD i undef) (fun i hi => ⟨.inr ⟨by omega, by omega⟩, ?_⟩) (fun i hi => ?_) (fun i hi => ?_)
            · match i, hi with
              | 0, _ => rw [cell_of_row _ _ _ _ _ _ hbs]; rfl
            · match i, hi with
              | 0, _ => exact .v _
            · match i, hi with
              | 0, _ => rfl

theorem repVi {F : Nat → Prop} {w : World} {n : Int} {u : Value} (h : RepP F w (intP n) u) : u = .int .i64 n := by unfold intP at h; cases h; rfl
theorem others_itok (c : KL.Cup) (hV : KL.Valid c) (s : Nat) : IterOK Tryz.prog (othA c s) (fun x : Oth c s => #[Value.int .i64 x.1, .agg (formM c x.1)]) 159 (oth s c.sk.toNat).length (fun ys => ys.map (fun x => x.1) = oth s c.sk.toNat) := fun C M w u hu hFs => by
  cases hu with
  | fn _ _ _ us vs h1 h2 h3 h4 =>
    obtain rfl : us = #[] := by simpa using h1
    have q0 := h4 0 (by simp)
    have q1 := h4 1 (by simp)
    simp only [List.getElem_cons_zero, List.getElem_cons_succ] at q0 q1
    obtain ⟨x0, x1, rfl⟩ : ∃ x0 x1, vs = #[x0, x1] := by
      have : vs.toList.length = 2 := by simpa using h2
      match hv : vs.toList, this with
      | [x0, x1], _ => exact ⟨x0, x1, by rw [← hv]⟩
    simp at q0 q1
    cases q0 with
    | rp _ _ b1 o1 u1 e1 e2 e3 =>
      cases q1 with
      | rp _ _ b2 o2 u2 g1 g2 g3 =>
        refine ⟨_, fun pre => ∃ ys : List Nat, True, rfl, fun l J Jx W hW hJ _ hY h0 => ?_⟩
        have hsame : ∀ W', KpG C.F W W' → ∀ b, C.F b → W'.heap[b]? = w.heap[b]? := fun W' hk b hb => (hk.same b hb).trans (hW.block b (hFs b hb))
        have e2' : ∀ W', KpG C.F W W' → ∀ i (h : i < 5), RepP C.F W' ([intP c.sk, intP c.ra, intP c.be, intsP c.pts, rowsP c.done][i]'h) (u1 i) := fun W' hk i hi => (e2 i hi).mono (fun _ h => h) (hsame W' hk)
        have z0 : u1 0 = .int .i64 c.sk := repVi (e2 0 (by simp))
        have z1 : u1 1 = .int .i64 c.ra := repVi (e2 1 (by simp))
        have z2 : u1 2 = .int .i64 c.be := repVi (e2 2 (by simp))
        have zs : u2 0 = .int .i64 s := repVi (g2 0 (by simp))
        have := others_iterG c hV C.F (u1 3) (u1 4) 2 l b1 o1 b2 o2 (by omega) s (fun ys W => ∃ zs : List (Oth c s), zs.map (fun x => x.1) = ys ∧ J zs W) (fun ys W => ∃ zs : List (Oth c s), zs.map (fun x => x.1) = ys ∧ Jx zs W)
          (fun pre x W1 hx hxs hj hl => by
            obtain ⟨zs, rfl, hj⟩ := hj
            obtain ⟨fn, tmps, assign, body, hy, hR⟩ := hY zs ⟨x, hx, hxs⟩ W1 hj (by simpa using hl)
            refine ⟨fn, tmps, assign, body, hy, hR.mono ?_⟩
            rintro e w3 (⟨rfl, hJ3, hK3⟩ | ⟨rfl, hx3⟩)
            · exact .inl ⟨rfl, ⟨zs ++ [⟨x, hx, hxs⟩], by rw [List.map_append]; rfl, hJ3⟩, hK3⟩
            · exact .inr ⟨rfl, ⟨zs ++ [⟨x, hx, hxs⟩], by rw [List.map_append]; rfl, hx3⟩⟩)
          W (fun ys A B row hs hg hr => by obtain ⟨zs, h1, h2⟩ := hs; exact ⟨zs, h1, hJ _ _ _ _ h2 hg hr⟩) (fun b hb => Nat.lt_of_lt_of_le (hFs b hb) hW.size)
          (fun W' hk => ⟨_, _, rfl, ints_of (e2' W' hk 3 (by omega)), rows_of (e2' W' hk 4 (by omega))⟩)
          (fun W' hk => by
            have hc : ∀ b o, C.F b → W'.cell? ⟨b, o, none⟩ = w.cell? ⟨b, o, none⟩ := fun b o hb => cell_heap (hsame W' hk b hb) o
            refine ⟨?_, ?_, ?_, ?_, ?_, ?_⟩
            · rw [hc _ _ (e1 0 (by simp)).1, ← z0]; exact (e1 0 (by simp)).2
            · rw [hc _ _ (e1 1 (by simp)).1, ← z1]; exact (e1 1 (by simp)).2
            · rw [hc _ _ (e1 2 (by simp)).1, ← z2]; exact (e1 2 (by simp)).2
            · rw [hc _ _ (e1 3 (by simp)).1]; exact (e1 3 (by simp)).2
            · rw [hc _ _ (e1 4 (by simp)).1]; exact (e1 4 (by simp)).2
            · rw [hc _ _ (g1 0 (by simp)).1, ← zs]; exact (g1 0 (by simp)).2)
          ⟨[], rfl, h0⟩
        refine this.mono ?_
        rintro e W' ⟨h5, h6⟩
        refine ⟨h5, ?_⟩
        rcases h6 with ⟨ys, rfl, zs, h7, h8⟩ | ⟨pre, _, zs, h7, h8⟩
        · exact .inl ⟨zs, h7, h8⟩
        · exact .inr ⟨zs, ⟨[], trivial⟩, h8⟩
end KV
end Go.Proofs
end
namespace Go.Proofs
namespace KV
section
open KL
noncomputable abbrev zK6c0 : Code := sub (cd Tryz.f56) [1, 1, 1, 1, 1, 0, 1, 0, 0]
noncomputable abbrev zK6c1 : Code := sub (cd Tryz.f56) [1, 1, 1, 1, 1, 0, 1, 0, 0, 1, 0, 0, 1, 0, 1, 0]
noncomputable abbrev zK6c2 : Code := sub (cd Tryz.f56) [1, 1, 1, 1, 1, 0, 1, 0, 0, 1, 0, 0, 1, 0, 1, 0, 1]
theorem enters159 (args : Array Value) (w : World) : (callFunc 159 args).run Tryz.prog w = .ok (.enter 159 args) w := enters_of Tryz.func159 (by kernel_rfl) rfl args w
def harmM (c : Cup) (s : Nat) (p : Int) : Int := (oth s c.sk.toNat).foldl (fun n x => if beatsM c x p s 1 then n else n + 1) 0
def full_S0 (c : Cup) (s : Nat) (pl : Int) (freen : Nat) (freec : List PV) : St := ⟨fr 66 [(3, (.ptr 0 0)), (6, (.ptr 1 0)), (8, (.ptr 3 0)), (9, (.ptr 4 0))], [some (.box 3 [(.p (intP (s : Int)))]), some (.box 120 [(.p (intP c.sk)), (.p (intP c.ra)), (.p (intP c.be)), (.p (intsP c.pts)), (.p (rowsP c.done))]), some (.row 3 freen freec), some (.box 22 [(.own 2)]), some (.box 3 [(.p (intP pl))])]⟩
theorem full_p1 {c : Cup} {s : Nat} {pl'0 : Int} {free'1 : List Int} (h0 : KL.Small c) (h1 : (lastE c (s : Int)) = (0 : Int)) (h2 : 0 ≤ c.sk ∧ c.sk ≤ c.sk ∧ c.sk ≤ 1000000) (h3 : 0 ≤ (s : Int) ∧ (s : Int) < ((c.sk.toNat : Nat) : Int)) (h4 : (s * 1) < (List.replicate c.sk.toNat (intP 0)).length) (hl5 : LoopOK Tryz.prog 0 zK6c0 (full_S0 c s (2 : Int) c.sk.toNat ((List.replicate c.sk.toNat (intP 0)).set (s * 1) (intP 1))) (.exit 0) (full_S0 c s pl'0 free'1.length (free'1.map intP))) {base : Nat} : FV Tryz.prog 56 [(.p (cupP c)), (.p (intP (s : Int)))] base (.tup [(.p (intsP free'1)), (.p (intP 0))]) [] := by
  exact FV.frz (FMM.fin (k := 0) (g := ⟨[], [], [2], []⟩) rfl Tryz.func56 rfl (o := [.c (.tup [(.p (cupP c)), (.p (intP (lastE c (s : Int))))]) [], .b false, .k 8 ⟨(rng [(0, 3), (4, 2), (7, 1), (10, 55)]), [1, 2, 3, 4, 5], [], []⟩ (.exit 0) (full_S0 c s pl'0 free'1.length (free'1.map intP))]) (l := [_, _, _, _, _, FC Tryz.prog 126 [(.p (cupP c)), (.p (intP (s : Int)))] [] 2 (.tup [(.p (cupP c)), (.p (intP (lastE c (s : Int))))]) []]) (by kernel_rfl) (gc hl5.code (gc h4 (gc h3 (gc h2 (gc (q_neF h1) (gc (FV.fc (last_ok c h0 (s : Int)) rfl) gn))))))) (by kernel_rfl)
theorem full_p2 {c : Cup} {s : Nat} {pl'0 : Int} {free'1 : List Int} (h0 : KL.Small c) (h1 : (lastE c (s : Int)) = (0 : Int)) (h2 : 0 ≤ c.sk ∧ c.sk ≤ c.sk ∧ c.sk ≤ 1000000) (h3 : 0 ≤ (s : Int) ∧ (s : Int) < ((c.sk.toNat : Nat) : Int)) (h4 : (s * 1) < (List.replicate c.sk.toNat (intP 0)).length) (hl5 : LoopOK Tryz.prog 0 zK6c0 (full_S0 c s (2 : Int) c.sk.toNat ((List.replicate c.sk.toNat (intP 0)).set (s * 1) (intP 1))) .ret (setS (full_S0 c s pl'0 free'1.length (free'1.map intP)) [(4, (.p nilS)), (5, (.p (intP 6)))])) {base : Nat} : FV Tryz.prog 56 [(.p (cupP c)), (.p (intP (s : Int)))] base (.tup [(.p nilS), (.p (intP 6))]) [] := by
  exact FV.frz (FMM.fin (k := 0) (g := ⟨[], [], [], []⟩) rfl Tryz.func56 rfl (o := [.c (.tup [(.p (cupP c)), (.p (intP (lastE c (s : Int))))]) [], .b false, .k 8 ⟨(rng [(0, 3), (4, 2), (7, 1), (10, 55)]), [1, 2, 3, 4, 5], [], []⟩ .ret (setS (full_S0 c s pl'0 free'1.length (free'1.map intP)) [(4, (.p nilS)), (5, (.p (intP 6)))])]) (l := [_, _, _, _, _, FC Tryz.prog 126 [(.p (cupP c)), (.p (intP (s : Int)))] [] 2 (.tup [(.p (cupP c)), (.p (intP (lastE c (s : Int))))]) []]) (by kernel_rfl) (gc hl5.code (gc h4 (gc h3 (gc h2 (gc (q_neF h1) (gc (FV.fc (last_ok c h0 (s : Int)) rfl) gn))))))) (by kernel_rfl)
def full_S1 (c : Cup) (s : Nat) (pl : Int) (free : List Int) (fo : Int) : St := ⟨fr 66 [(3, (.ptr 0 0)), (6, (.ptr 1 0)), (8, (.ptr 3 0)), (9, (.ptr 4 0)), (10, (.ptr 5 0)), (28, (.p (intP pl))), (29, (.ptr 1 0)), (30, (.ptr 1 0)), (31, (.p (intP c.sk))), (32, (.p (blP (decide (pl ≤ c.sk))))), (35, (.p (cupP c))), (36, (.p (intP (s : Int)))), (37, (.fn 159 [] [(.rp [(intP c.sk), (intP c.ra), (intP c.be), (intsP c.pts), (rowsP c.done)] 0), (.rp [(intP (s : Int))] 0)]))], [some (.box 3 [(.p (intP (s : Int)))]), some (.box 120 [(.p (intP c.sk)), (.p (intP c.ra)), (.p (intP c.be)), (.p (intsP c.pts)), (.p (rowsP c.done))]), some (.row 3 free.length (free.map intP)), some (.box 22 [(.own 2)]), some (.box 3 [(.p (intP pl))]), some (.box 3 [(.p (intP fo))])]⟩
theorem full_L0_p0 {c : Cup} {s : Nat} {pl : Int} {free : List Int} {fo'100 : Int} (h0 : pl ≤ c.sk) (hl1 : CodeOK Tryz.prog 0 zK6c1 (full_S1 c s pl free (-1 : Int)) .normal (full_S1 c s pl free fo'100)) (h2 : fo'100 < (0 : Int)) : CodeOK Tryz.prog 0 zK6c0 (full_S0 c s pl free.length (free.map intP)) .ret (setS (full_S0 c s pl free.length (free.map intP)) [(4, (.p nilS)), (5, (.p (intP 6)))]) := by
  exact CodeOK.fin (g := ⟨(rng [(0, 3), (7, 1), (10, 55)]), [0, 1, 2, 3, 4], [], []⟩) (o := [.b true, .c (.fn 159 [] [(.rp [(intP c.sk), (intP c.ra), (intP c.be), (intsP c.pts), (rowsP c.done)] 0), (.rp [(intP (s : Int))] 0)]) [], .k 1 ⟨(rng [(0, 3), (7, 1), (11, 17), (38, 20)]), [0, 1, 2, 3, 4, 5], [], []⟩ .normal (full_S1 c s pl free fo'100), .b true]) (l := [_, CodeOK Tryz.prog 0 zK6c1 (full_S1 c s pl free (-1 : Int)) .normal (full_S1 c s pl free fo'100), FC Tryz.prog 128 [(.p (cupP c)), (.p (intP (s : Int)))] [] 6 (.fn 159 [] [(.rp [(intP c.sk), (intP c.ra), (intP c.be), (intsP c.pts), (rowsP c.done)] 0), (.rp [(intP (s : Int))] 0)]) [], _]) (by kernel_rfl) (gc (q_lt h2) (gc hl1 (gc (others_fc c s) (gc (q_le h0) gn))))
theorem full_L0_p1 {c : Cup} {s : Nat} {pl : Int} {free : List Int} {fo'100 x101 pl' : Int} {free' : List Int} (h0 : pl ≤ c.sk) (hl1 : CodeOK Tryz.prog 0 zK6c1 (full_S1 c s pl free (-1 : Int)) .normal (full_S1 c s pl free fo'100)) (h2 : (0 : Int) ≤ fo'100) (h3 : free[fo'100.toNat]? = some x101) (h4 : 0 ≤ fo'100) (h5 : (fo'100.toNat * 1) < (free.map intP).length) (h6 : inR (pl + (1 : Int))) (epl' : pl' = (pl + (1 : Int))) (efree'n : free'.length = free.length) (efree'c : free'.map intP = ((free.map intP).set (fo'100.toNat * 1) (intP pl))) : CodeOK Tryz.prog 0 zK6c0 (full_S0 c s pl free.length (free.map intP)) .normal (full_S0 c s pl' free'.length (free'.map intP)) := by
  subst epl'
  have raw : CodeOK Tryz.prog 0 zK6c0 (full_S0 c s pl free.length (free.map intP)) .normal (full_S0 c s (pl + (1 : Int)) free.length ((free.map intP).set (fo'100.toNat * 1) (intP pl))) := CodeOK.fin (g := ⟨(rng [(0, 3), (4, 2), (7, 1), (10, 55)]), [0, 1, 2, 3, 6], [], []⟩) (o := [.b true, .c (.fn 159 [] [(.rp [(intP c.sk), (intP c.ra), (intP c.be), (intsP c.pts), (rowsP c.done)] 0), (.rp [(intP (s : Int))] 0)]) [], .k 1 ⟨(rng [(0, 3), (7, 1), (11, 17), (38, 20)]), [0, 1, 2, 3, 4, 5], [], []⟩ .normal (full_S1 c s pl free fo'100), .b false]) (l := [_, _, _, _, CodeOK Tryz.prog 0 zK6c1 (full_S1 c s pl free (-1 : Int)) .normal (full_S1 c s pl free fo'100), FC Tryz.prog 128 [(.p (cupP c)), (.p (intP (s : Int)))] [] 6 (.fn 159 [] [(.rp [(intP c.sk), (intP c.ra), (intP c.be), (intsP c.pts), (rowsP c.done)] 0), (.rp [(intP (s : Int))] 0)]) [], _]) (by kernel_rfl) (gc h6 (gc h5 (gc (ix_own (i := fo'100) h4 h3) (gc (q_ltF h2) (gc hl1 (gc (others_fc c s) (gc (q_le h0) gn)))))))
  exact raw.cast (by rw [efree'n, efree'c])
theorem full_L0_p2 {c : Cup} {s : Nat} {pl : Int} {free : List Int} (h0 : c.sk < pl) : CodeOK Tryz.prog 0 zK6c0 (full_S0 c s pl free.length (free.map intP)) (.exit 0) (full_S0 c s pl free.length (free.map intP)) := by
  exact CodeOK.fin (g := ⟨(rng [(0, 3), (4, 2), (7, 1), (10, 55)]), [0, 1, 2, 3, 4], [], []⟩) (o := [.b false]) (l := [_]) (by kernel_rfl) (gc (q_leF h0) gn)
theorem full_L1_p0 {c : Cup} {s : Nat} {pl : Int} {free : List Int} {fo : Int} {x : Nat} {x200 fo' : Int} (h0 : fo < (0 : Int)) (h1 : free[x]? = some x200) (h2 : x200 = (0 : Int)) (h3 : beatsOK c x pl s (1 : Int)) (h4 : (beatsM c x pl s (1 : Int)) = false) (efo' : fo' = (x : Int)) : CodeOK Tryz.prog 6 zK6c2 (rfS (full_S1 c s pl free fo) 38 39 11 (intP (x : Int))) .normal (full_S1 c s pl free fo') := by
  subst efo'
  exact CodeOK.fin (g := ⟨(rng [(0, 3), (7, 1), (11, 17), (38, 20)]), [], [], []⟩) (o := [.b true, .b true, .b true, .b true, .x (intP x200), .b true, .b true, .b true, .b true, .b true, .b true, .b true, .c (.p (blP (beatsM c x pl s (1 : Int)))) [], .b true, .b true, .b true]) (l := [_, _, _, FC Tryz.prog 129 [(.p (cupP c)), (.p (intP (x : Int))), (.p (intP pl)), (.p (intP (s : Int))), (.p (intP 1))] [] 6 (.p (blP (beatsM c x pl s (1 : Int)))) [], _, _, _, _, _, _, _, (free.map intP)[(x * 1)]? = some (intP x200), _, _, _, _, _]) (by kernel_rfl) (gc (q_not h4) (gc (q_eq h2) (gc (q_eq h2) (gc (FV.fc (beats_ok c x pl s (1 : Int) h3) rfl) (gc (q_eq h2) (gc (q_eq h2) (gc (q_eq h2) (gc (q_eq h2) (gc (q_eq h2) (gc (q_lt h0) (gc (q_lt h0) (gc (at_map (i := x) h1) (gc (q_lt h0) (gc (ix_own (i := (x : Int)) (Int.natCast_nonneg _) h1) (gc (q_lt h0) (gc (q_lt h0) (gc (q_lt h0) gn)))))))))))))))))
theorem full_L1_p1 {c : Cup} {s : Nat} {pl : Int} {free : List Int} {fo : Int} {x : Nat} {x200 : Int} (h0 : fo < (0 : Int)) (h1 : free[x]? = some x200) (h2 : x200 = (0 : Int)) (h3 : beatsOK c x pl s (1 : Int)) (h4 : (beatsM c x pl s (1 : Int)) = true) : CodeOK Tryz.prog 6 zK6c2 (rfS (full_S1 c s pl free fo) 38 39 11 (intP (x : Int))) .normal (full_S1 c s pl free fo) := by
  exact CodeOK.fin (g := ⟨(rng [(0, 3), (7, 1), (11, 17), (38, 20)]), [], [], []⟩) (o := [.b true, .b true, .b true, .b true, .x (intP x200), .b true, .b true, .b true, .b true, .b true, .b true, .b true, .c (.p (blP (beatsM c x pl s (1 : Int)))) [], .b true, .b true, .b false]) (l := [_, _, _, FC Tryz.prog 129 [(.p (cupP c)), (.p (intP (x : Int))), (.p (intP pl)), (.p (intP (s : Int))), (.p (intP 1))] [] 6 (.p (blP (beatsM c x pl s (1 : Int)))) [], _, _, _, _, _, _, _, (free.map intP)[(x * 1)]? = some (intP x200), _, _, _, _, _]) (by kernel_rfl) (gc (q_notF h4) (gc (q_eq h2) (gc (q_eq h2) (gc (FV.fc (beats_ok c x pl s (1 : Int) h3) rfl) (gc (q_eq h2) (gc (q_eq h2) (gc (q_eq h2) (gc (q_eq h2) (gc (q_eq h2) (gc (q_lt h0) (gc (q_lt h0) (gc (at_map (i := x) h1) (gc (q_lt h0) (gc (ix_own (i := (x : Int)) (Int.natCast_nonneg _) h1) (gc (q_lt h0) (gc (q_lt h0) (gc (q_lt h0) gn)))))))))))))))))
theorem full_L1_p2 {c : Cup} {s : Nat} {pl : Int} {free : List Int} {fo : Int} {x : Nat} {x200 : Int} (h0 : fo < (0 : Int)) (h1 : free[x]? = some x200) (h2 : x200 ≠ (0 : Int)) : CodeOK Tryz.prog 6 zK6c2 (rfS (full_S1 c s pl free fo) 38 39 11 (intP (x : Int))) .normal (full_S1 c s pl free fo) := by
  exact CodeOK.fin (g := ⟨(rng [(0, 3), (7, 1), (11, 17), (38, 20)]), [], [], []⟩) (o := [.b true, .b true, .b true, .b true, .x (intP x200), .b true, .b true, .b false, .b false, .b false, .b false, .b false, .b false, .b false]) (l := [_, _, _, _, _, _, _, _, _, (free.map intP)[(x * 1)]? = some (intP x200), _, _, _, _, _]) (by kernel_rfl) (gc (q_ne h2) (gc (q_ne h2) (gc (q_ne h2) (gc (q_ne h2) (gc (q_ne h2) (gc (q_ne h2) (gc (q_ne h2) (gc (q_lt h0) (gc (q_lt h0) (gc (at_map (i := x) h1) (gc (q_lt h0) (gc (ix_own (i := (x : Int)) (Int.natCast_nonneg _) h1) (gc (q_lt h0) (gc (q_lt h0) (gc (q_lt h0) gn)))))))))))))))
theorem full_L1_p3 {c : Cup} {s : Nat} {pl : Int} {free : List Int} {fo : Int} {x : Nat} (h0 : (0 : Int) ≤ fo) : CodeOK Tryz.prog 6 zK6c2 (rfS (full_S1 c s pl free fo) 38 39 11 (intP (x : Int))) .normal (full_S1 c s pl free fo) := by
  exact CodeOK.fin (g := ⟨(rng [(0, 3), (7, 1), (11, 17), (38, 20)]), [], [], []⟩) (o := [.b false, .b false, .b false, .b false, .b false, .b false]) (l := [_, _, _, _, _, _]) (by kernel_rfl) (gc (q_ltF h0) (gc (q_ltF h0) (gc (q_ltF h0) (gc (q_ltF h0) (gc (q_ltF h0) (gc (q_ltF h0) gn))))))
def findF (c : Cup) (s : Nat) (pl : Int) (free : List Int) (fo : Int) (x : Nat) : Int := if fo < 0 then (if free.getD x 0 = 0 then (if beatsM c x pl s 1 then fo else (x : Int)) else fo) else fo
def findM (c : Cup) (s : Nat) (pl : Int) (free : List Int) : Int := (oth s c.sk.toNat).foldl (findF c s pl free) (-1)
theorem findF_bd {c : Cup} {s : Nat} {pl : Int} {free : List Int} {m : Int} : ∀ (l : List Nat) (fo : Int), (∀ x ∈ l, (x : Int) < m) → (fo = -1 ∨ 0 ≤ fo ∧ fo < m) → (l.foldl (findF c s pl free) fo = -1 ∨ 0 ≤ l.foldl (findF c s pl free) fo ∧ l.foldl (findF c s pl free) fo < m)
  | [], _, _, h => h
  | x :: l, fo, hx, h => by
    rw [List.foldl_cons]
    refine findF_bd l _ (fun y hy => hx y (List.mem_cons_of_mem _ hy)) ?_
    have := hx x (List.mem_cons_self ..)
    unfold findF
    repeat' split
    all_goals omega
theorem findM_bd (c : Cup) (s : Nat) (pl : Int) (free : List Int) : findM c s pl free = -1 ∨ 0 ≤ findM c s pl free ∧ findM c s pl free < c.sk := findF_bd _ _ (fun x hx => by have := (oth_mem hx).1; omega) (.inl rfl)
def fullR (c : Cup) (s : Nat) : Nat → Int → List Int → Option (List Int)
  | 0, _, free => some free
  | n + 1, pl, free => if findM c s pl free < 0 then none else fullR c s n (pl + 1) (free.set (findM c s pl free).toNat pl)
def fullM (c : Cup) (s : Nat) : Option (List Int) := fullR c s (c.sk.toNat - 1) 2 ((List.replicate c.sk.toNat 0).set s 1)
theorem full_find (c : Cup) (s : Nat) (pl : Int) (free : List Int) (hV : KL.Valid c) (hl : free.length = c.sk.toNat) (h : ∀ x : Nat, (x : Int) < c.sk → x ≠ s → beatsOK c x pl s 1) :
    CodeOK Tryz.prog 0 zK6c1 (full_S1 c s pl free (-1)) .normal (full_S1 c s pl free (findM c s pl free)) := by
  refine CodeOK.rangeAcc (P := Tryz.prog) (kb := 6) (gi := 37) (gf := 159) (p1 := 38) (p2 := 39) (d := 11) (body := sub (cd Tryz.f56) [1, 1, 1, 1, 1, 0, 1, 0, 0, 1, 0, 0, 1, 0, 1, 0, 1]) (g := othA c s) (xs := oth s c.sk.toNat) (fun x : Oth c s => x.1) (full_S1 c s pl free) (full_S1 c s pl free 0).t
    (fun x => .int .i64 x.1) (fun x => .agg (formM c x.1)) (fun fo x => findF c s pl free fo x.1) (-1) (fun _ _ => True) (fun ys => ys.foldl (findF c s pl free) (-1))
    rfl (fun _ => rfl) rfl (others_itok c hV s) enters159 (fun acc i es cl h => ?_) (fun _ => Nat.le_refl _) (by kernel_rfl) (fun _ => rfl) trivial (fun _ _ _ _ _ => trivial) (fun i fo x hi hI => ?_) (fun ys => by rw [List.foldl_map])
  · match i, h with
    | 0, h => cases h
    | 1, h => cases h
    | 2, h => cases h
    | 3, h => cases h
    | 4, h => cases h
    | 5, h => cases h
  · have hb := h x.1 x.2.1 x.2.2
    have hx := x.2.1
    have hg : free[x.1]? = some (free.getD x.1 0) := by
      rw [List.getElem?_eq_getElem (by omega), List.getD_eq_getElem?_getD, List.getElem?_eq_getElem (by omega)]; rfl
    unfold findF
    by_cases h1 : fo < 0
    · rw [if_pos h1]
      by_cases h2 : free.getD x.1 0 = 0
      · rw [if_pos h2]
        cases hm : beatsM c x.1 pl s 1 with
        | true => exact full_L1_p1 h1 hg h2 hb hm
        | false => exact full_L1_p0 h1 hg h2 hb hm rfl
      · rw [if_neg h2]; exact full_L1_p2 h1 hg h2
    · rw [if_neg h1]; exact full_L1_p3 (by omega)
theorem full_loop (c : Cup) (s : Nat) (hV : KL.Valid c) (hd : (c.done.length : Int) < c.ra) (hs : (s : Int) < c.sk) : ∀ (n : Nat) (pl : Int) (free : List Int), 2 ≤ pl → pl + n = c.sk + 1 → free.length = c.sk.toNat →
    (∃ f, fullR c s n pl free = some f ∧ LoopOK Tryz.prog 0 zK6c0 (full_S0 c s pl free.length (free.map intP)) (.exit 0) (full_S0 c s (c.sk + 1) f.length (f.map intP))) ∨
    (fullR c s n pl free = none ∧ ∃ (pl' : Int) (f : List Int), LoopOK Tryz.prog 0 zK6c0 (full_S0 c s pl free.length (free.map intP)) .ret (setS (full_S0 c s pl' f.length (f.map intP)) [(4, .p nilS), (5, .p (intP 6))]))
  | 0, pl, free, h1, h2, h3 => by
    refine .inl ⟨free, rfl, ?_⟩
    obtain rfl : pl = c.sk + 1 := by omega
    exact .exit (full_L0_p2 (by omega)) (by simp)
  | n + 1, pl, free, h1, h2, h3 => by
    have hq1 := hV.sk1
    have hq2 := hV.sk2
    have hf := full_find c s pl free hV h3 (fun x hx hxs => ⟨hV, hd, hx, hs, by omega, by omega, by omega⟩)
    unfold fullR
    by_cases hn : findM c s pl free < 0
    · rw [if_pos hn]
      exact .inr ⟨rfl, pl, free, .exit (full_L0_p0 (by omega) hf hn) (by simp)⟩
    · rw [if_neg hn]
      have hb := findM_bd c s pl free
      have hi : (findM c s pl free).toNat < free.length := by omega
      have st := full_L0_p1 (free' := free.set (findM c s pl free).toNat pl) (by omega) hf (by omega) (List.getElem?_eq_getElem hi) (by omega) (by rw [Nat.mul_one, List.length_map]; exact hi) (by unfold inR; omega) rfl (by simp) (by simp [List.map_set])
      rcases full_loop c s hV hd hs n (pl + 1) (free.set (findM c s pl free).toNat pl) (by omega) (by omega) (by simpa using h3) with ⟨f, e, h⟩ | ⟨e, pl', f, h⟩
      · exact .inl ⟨f, e, .step st h⟩
      · exact .inr ⟨e, pl', f, .step st h⟩
theorem full_ok (c : Cup) (s : Nat) (h : lastE c (s : Int) = 0) {base : Nat} : FV Tryz.prog 56 [.p (cupP c), .p (intP (s : Int))] base (match fullM c s with | some f => .tup [.p (intsP f), .p (intP 0)] | none => .tup [.p nilS, .p (intP 6)]) [] := by
  obtain ⟨hV, hs0, hs, hra⟩ := lastE_zero h
  have h1 := hV.sk1
  have h2 := hV.sk2
  have hset : ((List.replicate c.sk.toNat (intP 0)).set (s * 1) (intP 1)) = (((List.replicate c.sk.toNat 0).set s 1).map intP) := by simp [List.map_set]
  have hle : c.sk.toNat = ((List.replicate c.sk.toNat (0 : Int)).set s 1).length := by simp
  have hss : (s * 1) < (List.replicate c.sk.toNat (intP 0)).length := by simp; omega
  unfold fullM
  rcases full_loop c s hV (by omega) hs (c.sk.toNat - 1) 2 ((List.replicate c.sk.toNat 0).set s 1) (by omega) (by omega) (by simp) with ⟨f, e, hL⟩ | ⟨e, pl', f, hL⟩
  · rw [e]
    rw [← hset, ← hle] at hL
    exact full_p1 hV.small h (by omega) (by omega) hss hL
  · rw [e]
    rw [← hset, ← hle] at hL
    exact full_p2 hV.small h (by omega) (by omega) hss hL
def blkM (c : Cup) (s : Nat) (p : Int) : Bool := decide (harmM c s p < p - 1)
end
section
open KL
noncomputable abbrev zK7c0 : Code := sub (cd Tryz.f32) [1, 1, 1, 1, 0, 1, 0, 0]
theorem totals_p0 {c : Cup} {r0 : Int} (h0 : KL.Small c) (h1 : (checkP c) ≠ (0 : Int)) (er0 : r0 = (checkP c)) {base : Nat} : FV Tryz.prog 30 [(.p (cupP c))] base (.tup [(.p nilS), (.p (intP r0))]) [] := by
  subst er0
  exact FV.fin Tryz.func30 rfl (o := [.c (.tup [(.p (cupP c)), (.p (intP (checkP c)))]) [], .b true]) (l := [_, FC Tryz.prog 88 [(.p (cupP c))] [] 1 (.tup [(.p (cupP c)), (.p (intP (checkP c)))]) []]) (by kernel_rfl) (gc (q_neT h1) (gc (FV.fc (asked_ok c h0) rfl) gn))
theorem totals_p1 {c : Cup} (h0 : KL.Small c) (h1 : (checkP c) = (0 : Int)) (h2 : KL.Valid c) {base : Nat} : FV Tryz.prog 30 [(.p (cupP c))] base (.tup [(.p (intsP (totalsM c))), (.p (intP 0))]) [] := by
  exact FV.fin Tryz.func30 rfl (o := [.c (.tup [(.p (cupP c)), (.p (intP (checkP c)))]) [], .b false, .c (.p (intsP (totalsM c))) []]) (l := [FC Tryz.prog 94 [(.p (cupP c))] [] 2 (.p (intsP (totalsM c))) [], _, FC Tryz.prog 88 [(.p (cupP c))] [] 1 (.tup [(.p (cupP c)), (.p (intP (checkP c)))]) []]) (by kernel_rfl) (gc (FV.fc (totals_ok c h2) rfl) (gc (q_neF h1) (gc (FV.fc (asked_ok c h0) rfl) gn)))
theorem cntd_p1 {c : Cup} {s : Nat} (h0 : KL.Small c) (h1 : (namedE c (s : Int)) = (0 : Int)) (h2 : KL.Valid c) (h3 : ((s : Nat) : Int) < c.sk) {base : Nat} : FV Tryz.prog 51 [(.p (cupP c)), (.p (intP (s : Int)))] base (.tup [(.p (intsP (countedL c s))), (.p (intP 0))]) [] := by
  exact FV.fin Tryz.func51 rfl (o := [.c (.tup [(.p (cupP c)), (.p (intP (namedE c (s : Int))))]) [], .b false, .c (.p (intsP (countedL c s))) []]) (l := [FC Tryz.prog 125 [(.p (cupP c)), (.p (intP (s : Int)))] [] 2 (.p (intsP (countedL c s))) [], _, FC Tryz.prog 107 [(.p (cupP c)), (.p (intP (s : Int)))] [] 1 (.tup [(.p (cupP c)), (.p (intP (namedE c (s : Int))))]) []]) (by kernel_rfl) (gc (FV.fc (counted_ok c h2 s h3) rfl) (gc (q_neF h1) (gc (FV.fc (named_ok c h0 (s : Int)) rfl) gn)))
theorem cntdE_p0 {c : Cup} {k r0 : Int} (h0 : KL.Small c) (h1 : (namedE c k) ≠ (0 : Int)) (er0 : r0 = (namedE c k)) {base : Nat} : FV Tryz.prog 51 [(.p (cupP c)), (.p (intP k))] base (.tup [(.p nilS), (.p (intP r0))]) [] := by
  subst er0
  exact FV.fin Tryz.func51 rfl (o := [.c (.tup [(.p (cupP c)), (.p (intP (namedE c k)))]) [], .b true]) (l := [_, FC Tryz.prog 107 [(.p (cupP c)), (.p (intP k))] [] 1 (.tup [(.p (cupP c)), (.p (intP (namedE c k)))]) []]) (by kernel_rfl) (gc (q_neT h1) (gc (FV.fc (named_ok c h0 k) rfl) gn))
def score_S0 (c : Cup) (k : Int) (i : Nat) (on : Nat) (oc : List PV) : St := ⟨fr 48 [(1, (.p (intP k))), (4, (.p nilS)), (5, (.p (intP 0))), (6, (.ptr 0 0)), (8, (.own 1)), (29, (.p (intP c.sk))), (30, (.p (intP (i : Int))))], [some (.box 120 [(.p (intP c.sk)), (.p (intP c.ra)), (.p (intP c.be)), (.p (intsP c.pts)), (.p (rowsP c.done))]), some (.row 3 on oc)]⟩
theorem score_p0 {c : Cup} {k r0 : Int} (h0 : KL.Small c) (h1 : (checkP c) ≠ (0 : Int)) (er0 : r0 = (checkP c)) {base : Nat} : FV Tryz.prog 32 [(.p (cupP c)), (.p (intP k))] base (.tup [(.p nilS), (.p (intP r0))]) [] := by
  subst er0
  exact FV.fin Tryz.func32 rfl (o := [.c (.tup [(.p (cupP c)), (.p (intP (checkP c)))]) [], .b true]) (l := [_, FC Tryz.prog 88 [(.p (cupP c))] [] 1 (.tup [(.p (cupP c)), (.p (intP (checkP c)))]) []]) (by kernel_rfl) (gc (q_neT h1) (gc (FV.fc (asked_ok c h0) rfl) gn))
theorem score_p1 {c : Cup} {k : Int} (h0 : KL.Small c) (h1 : (checkP c) = (0 : Int)) (h2 : inR ((c.done.length : Int) - (1 : Int))) (h3 : (within k (0 : Int) ((c.done.length : Int) - (1 : Int))) = false) {base : Nat} : FV Tryz.prog 32 [(.p (cupP c)), (.p (intP k))] base (.tup [(.p nilS), (.p (intP 1))]) [] := by
  exact FV.fin Tryz.func32 rfl (o := [.c (.tup [(.p (cupP c)), (.p (intP (checkP c)))]) [], .b false, .c (.p (blP (within k (0 : Int) ((c.done.length : Int) - (1 : Int))))) [], .b true]) (l := [_, FC Tryz.prog 89 [(.p (intP k)), (.p (intP 0)), (.p (intP ((c.done.length : Int) - (1 : Int))))] [] 2 (.p (blP (within k (0 : Int) ((c.done.length : Int) - (1 : Int))))) [], _, _, FC Tryz.prog 88 [(.p (cupP c))] [] 1 (.tup [(.p (cupP c)), (.p (intP (checkP c)))]) []]) (by kernel_rfl) (gc (q_not h3) (gc (FV.fc (within_ok k (0 : Int) ((c.done.length : Int) - (1 : Int))) rfl) (gc h2 (gc (q_neF h1) (gc (FV.fc (asked_ok c h0) rfl) gn)))))
theorem score_p2 {c : Cup} {k : Int} {i'0 : Nat} {o'1 : List Int} (h0 : KL.Small c) (h1 : (checkP c) = (0 : Int)) (h2 : inR ((c.done.length : Int) - (1 : Int))) (h3 : (within k (0 : Int) ((c.done.length : Int) - (1 : Int))) = true) (hl4 : LoopOK Tryz.prog 0 zK7c0 (score_S0 c k 0 0 []) (.exit 1) (score_S0 c k i'0 o'1.length (o'1.map intP))) {base : Nat} : FV Tryz.prog 32 [(.p (cupP c)), (.p (intP k))] base (.tup [(.own base), (.p (intP 0))]) [(base, (.row 3 o'1.length (o'1.map intP)))] := by
  exact FV.fin Tryz.func32 rfl (o := [.c (.tup [(.p (cupP c)), (.p (intP (checkP c)))]) [], .b false, .c (.p (blP (within k (0 : Int) ((c.done.length : Int) - (1 : Int))))) [], .b false, .k 6 ⟨(rng [(0, 1), (2, 2), (7, 1), (9, 20), (31, 16)]), [1, 2], [], [(8, 3)]⟩ (.exit 1) (score_S0 c k i'0 o'1.length (o'1.map intP))]) (l := [_, _, FC Tryz.prog 89 [(.p (intP k)), (.p (intP 0)), (.p (intP ((c.done.length : Int) - (1 : Int))))] [] 2 (.p (blP (within k (0 : Int) ((c.done.length : Int) - (1 : Int))))) [], _, _, FC Tryz.prog 88 [(.p (cupP c))] [] 1 (.tup [(.p (cupP c)), (.p (intP (checkP c)))]) []]) (by kernel_rfl) (gc hl4.code (gc (q_notF h3) (gc (FV.fc (within_ok k (0 : Int) ((c.done.length : Int) - (1 : Int))) rfl) (gc h2 (gc (q_neF h1) (gc (FV.fc (asked_ok c h0) rfl) gn))))))
theorem score_L0_p0 {c : Cup} {k : Int} {i : Nat} {o x100 : List Int} {i' : Nat} {o' : List Int} (h0 : (i : Int) < c.sk) (h1 : c.done[k.toNat]? = some x100) (h2 : 0 ≤ k) (h3 : KL.Valid c) (h4 : x100.length ≤ 1000) (h5 : ∀ x ∈ x100, 0 ≤ x ∧ x ≤ 60) (h6 : i < x100.length) (h7 : [(intP (scoreM c.pts x100 i))].length = 1 * 1 ∧ o.length + 1 ≤ 1000000) (h8 : inR (((i + 1) : Nat) : Int)) (ei' : i' = (i + 1)) (eo'n : o'.length = (o.length + 1)) (eo'c : o'.map intP = ((o.map intP) ++ [(intP (scoreM c.pts x100 i))])) : CodeOK Tryz.prog 0 zK7c0 (score_S0 c k i o.length (o.map intP)) .normal (score_S0 c k i' o'.length (o'.map intP)) := by
  subst ei'
  have raw : CodeOK Tryz.prog 0 zK7c0 (score_S0 c k i o.length (o.map intP)) .normal (score_S0 c k (i + 1) (o.length + 1) ((o.map intP) ++ [(intP (scoreM c.pts x100 i))])) := CodeOK.fin (g := ⟨(rng [(0, 1), (2, 2), (7, 1), (9, 20), (31, 16)]), [0, 7], [], []⟩) (o := [.b true, .x (intsP x100), .c (.p (intP (scoreM c.pts x100 i))) []]) (l := [_, _, FC Tryz.prog 102 [(.p (cupP c)), (.p (intsP x100)), (.p (intP (i : Int)))] [] 2 (.p (intP (scoreM c.pts x100 i))) [], (c.done.map intsP)[(k.toNat * 1)]? = some (intsP x100), 0 ≤ k ∧ k < (c.done.length : Int) ∧ (k.toNat * 1) < (c.done.map intsP).length, _]) (by kernel_rfl) (gc h8 (gc h7 (gc (FV.fc (points_ok c h3 x100 h4 h5 i h6) rfl) (gc (at_map (i := k.toNat) h1) (gc (ix_map (i := k) h2 h1) (gc (q_lt h0) gn))))))
  exact raw.cast (by rw [eo'n, eo'c])
theorem score_L0_p1 {c : Cup} {k : Int} {i : Nat} {o : List Int} (h0 : c.sk ≤ (i : Int)) : CodeOK Tryz.prog 0 zK7c0 (score_S0 c k i o.length (o.map intP)) (.exit 1) (score_S0 c k i o.length (o.map intP)) := by
  exact CodeOK.fin (g := ⟨(rng [(0, 1), (2, 2), (7, 1), (9, 20), (31, 16)]), [0, 1], [], []⟩) (o := [.b false]) (l := [_]) (by kernel_rfl) (gc (q_ltF h0) gn)
theorem totals2_ok (c : Cup) (hV : KL.Valid c) {base : Nat} : FV Tryz.prog 30 [.p (cupP c)] base (.tup [.p (intsP (totalsM c)), .p (intP 0)]) [] := totals_p1 hV.small ((KL.valid_iff c).2 hV) hV
theorem totals2_err (c : Cup) (hS : KL.Small c) (he : checkP c ≠ 0) {base : Nat} : FV Tryz.prog 30 [.p (cupP c)] base (.tup [.p nilS, .p (intP (checkP c))]) [] := totals_p0 hS he rfl
theorem named_in {c : Cup} {k : Int} (hV : KL.Valid c) (h1 : 0 ≤ k) (h2 : k < c.sk) : namedE c k = 0 := by
  unfold namedE
  rw [if_neg (by simpa using (KL.valid_iff c).2 hV), within_iff.2 ⟨h1, by omega⟩]
  simp
theorem counted2_ok (c : Cup) (hV : KL.Valid c) (s : Nat) (hs : (s : Int) < c.sk) {base : Nat} : FV Tryz.prog 51 [.p (cupP c), .p (intP (s : Int))] base (.tup [.p (intsP (countedL c s)), .p (intP 0)]) [] := cntd_p1 hV.small (named_in hV (by omega) hs) hV hs
theorem counted2_err (c : Cup) (hS : KL.Small c) (k : Int) (he : namedE c k ≠ 0) {base : Nat} : FV Tryz.prog 51 [.p (cupP c), .p (intP k)] base (.tup [.p nilS, .p (intP (namedE c k))]) [] := cntdE_p0 hS he rfl
def scoreL (c : Cup) (race : List Int) : List Int := (List.range c.sk.toNat).map fun s => scoreM c.pts race s
theorem score_ok (c : Cup) (hV : KL.Valid c) (k : Nat) (hk : k < c.done.length) {base : Nat} : FV Tryz.prog 32 [.p (cupP c), .p (intP (k : Int))] base (.tup [.own base, .p (intP 0)]) [(base, .row 3 (scoreL c (c.done.getD k [])).length ((scoreL c (c.done.getD k [])).map intP))] := by
  have h1 := hV.sk1
  have h2 := hV.sk2
  have h3 := hV.ra2
  have h4 := hV.dn
  have hg : c.done[k]? = some (c.done.getD k []) := by
    rw [List.getElem?_eq_getElem hk, List.getD_eq_getElem?_getD, List.getElem?_eq_getElem hk]; rfl
  have hmem : c.done.getD k [] ∈ c.done := List.mem_of_getElem? hg
  have hrl := hV.len _ hmem
  have hrr := hV.rows _ hmem
  have hL := LoopOK.times (P := Tryz.prog) (k := 0) (b := zK7c0) (e := .exit 1) (fun i (o : List Int) => score_S0 c (k : Int) i o.length (o.map intP)) (fun o => score_S0 c (k : Int) c.sk.toNat o.length (o.map intP)) (fun acc i => acc ++ [scoreM c.pts (c.done.getD k []) i]) (fun i o => o.length ≤ i) (by simp) c.sk.toNat (a0 := []) (by simp)
    (fun i o hi hI => ⟨by simp; omega, score_L0_p0 (x100 := c.done.getD k []) (by omega) (by rw [Int.toNat_natCast]; exact hg) (by omega) hV (by omega) hrr (by omega) (by simp; omega) (inR_nat (by omega)) rfl (by simp) (by simp)⟩)
    (fun o _ => score_L0_p1 (by omega))
  rw [foldl_map, List.nil_append] at hL
  exact score_p2 hV.small ((KL.valid_iff c).2 hV) (by unfold inR; omega) (within_iff.2 ⟨by omega, by omega⟩) hL
theorem score_err (c : Cup) (hS : KL.Small c) (k : Int) (he : checkP c ≠ 0) {base : Nat} : FV Tryz.prog 32 [.p (cupP c), .p (intP k)] base (.tup [.p nilS, .p (intP (checkP c))]) [] := score_p0 hS he rfl
theorem score_out (c : Cup) (hV : KL.Valid c) (k : Int) (hk : k < 0 ∨ (c.done.length : Int) ≤ k) {base : Nat} : FV Tryz.prog 32 [.p (cupP c), .p (intP k)] base (.tup [.p nilS, .p (intP 1)]) [] := by
  have h3 := hV.ra2
  have h4 := hV.dn
  refine score_p1 hV.small ((KL.valid_iff c).2 hV) (by unfold inR; omega) ?_
  cases h : within k 0 ((c.done.length : Int) - 1) with
  | false => rfl
  | true => obtain ⟨q1, q2⟩ := within_iff.1 h; omega
end
section
open KL
def u32w (z : Int) : Int := IntKind.wrap .u32 z
def drawB (l : List Int) (nx : Int) : Int := u32w (l.getD (nx.tmod (l.length : Int)).toNat 0)
def drawS (l : List Int) (nx st : Int) : Int := (u32w (u32w (u32w (u32w (st * 45) + drawB l nx) + u32w (77 * u32w (nx.tdiv (l.length : Int)))) + 1)).tmod 65519
def drawM (n : Int) (l : List Int) (nx st : Int) : Int × Int × Int := if n ≤ 1 ∨ l.length = 0 then (0, nx, st) else
  (if u32w (nx.tdiv (l.length : Int)) = 0 ∧ n ≤ 256 then (drawB l nx).tmod n else (u32w (u32w (drawS l nx st * 256) + drawB l nx)).tmod n, nx + 1, drawS l nx st)
def coinM (n : Int) (l : List Int) (nx st : Int) : Bool × Int × Int := ((drawM n l nx st).1 == 0, (drawM n l nx st).2)
def swapL (o : List Int) (i k : Nat) : List Int := (o.set i (o.getD k 0)).set k (o.getD i 0)
def shufR (l : List Int) : Nat → List Int → Int → Int → List Int × Int × Int
  | 0, o, nx, st => (o, nx, st)
  | j + 1, o, nx, st => shufR l j (swapL o (j + 1) (drawM ((j : Int) + 1 + 1) l nx st).1.toNat) (drawM ((j : Int) + 1 + 1) l nx st).2.1 (drawM ((j : Int) + 1 + 1) l nx st).2.2
def upL (n : Nat) : List Int := (List.range n).map fun (i : Nat) => (i : Int)
def shufM (n : Int) (l : List Int) (nx st : Int) : List Int × Int × Int := shufR l (n.toNat - 1) (upL n.toNat) nx st
end
end KV
end Go.Proofs
section
namespace Go.Proofs
namespace KL

structure RInv (ord : List Int) (n i : Nat) (o : List Int) (pl : Int) (la : List Int) : Prop where
  len : o.length = n
  p1 : 1 ≤ pl
  p2 : pl ≤ 1 + 3 * (i : Int)
  nn : ∀ x ∈ o, 0 ≤ x
  zero : ∀ (j : Nat) (x : Int), i ≤ j → ord[j]? = some x → o.getD x.toNat 0 = 0
  cl : ∀ p ∈ o, p ≠ 0 → p + (o.count p : Nat) ≤ pl ∧ ∀ q ∈ o, p < q → p + (o.count p : Nat) ≤ q
  lst : ∀ (y : Int) (r : List Int), la = y :: r → 0 ≤ y ∧ y.toNat < n ∧ 1 ≤ o.getD y.toNat 0 ∧ o.getD y.toNat 0 + (o.count (o.getD y.toNat 0) : Nat) = pl
  ll : la.length ≤ i

theorem count_pos' {o : List Int} {p : Int} (h : p ∈ o) : 1 ≤ o.count p := List.count_pos_iff.2 h
theorem count_setZ {o : List Int} {k : Nat} {a p : Int} (hk : k < o.length) (h0 : o.getD k 0 = 0) (hp : p ≠ 0) : (o.set k a).count p = o.count p + if a = p then 1 else 0 := by
  have hg : o[k] = 0 := by rw [List.getD_eq_getElem?_getD, List.getElem?_eq_getElem hk] at h0; exact h0
  rw [List.count_set hk, hg]
  have : ((0 : Int) == p) = false := by simpa using fun h => hp h.symm
  rw [this]
  by_cases h : a = p
  · subst h; simp
  · have h' : (a == p) = false := by simpa using h
    rw [h', if_neg h]; simp
theorem mem_set' {o : List Int} {k : Nat} {a x : Int} (h : x ∈ o.set k a) : x ∈ o ∨ x = a := List.mem_or_eq_of_mem_set h
theorem getD_set' {o : List Int} {k j : Nat} {a : Int} (hk : k < o.length) : (o.set k a).getD j 0 = if k = j then a else o.getD j 0 := by
  rw [List.getD_eq_getElem?_getD, List.getElem?_set]
  by_cases h : k = j
  · subst h; rw [if_pos rfl, if_pos rfl, if_pos hk]; rfl
  · rw [if_neg h, if_neg h, List.getD_eq_getElem?_getD]

variable {ord : List Int} {n i : Nat} {o : List Int} {pl : Int} {la : List Int}
theorem RInv.skip (h : RInv ord n i o pl la) : RInv ord n (i + 1) o pl la :=
  ⟨h.len, h.p1, by have := h.p2; omega, h.nn, fun j x hj hx => h.zero j x (by omega) hx, h.cl, h.lst, by have := h.ll; omega⟩

theorem ord_ne {x y : Int} {j : Nat} (hnd : ord.Nodup) (hin : ∀ x ∈ ord, 0 ≤ x) (hx : ord[i]? = some x) (hy : ord[j]? = some y) (hj : i < j) : x.toNat ≠ y.toNat := fun e => by
  have h1 := hin x (List.mem_of_getElem? hx)
  have h2 := hin y (List.mem_of_getElem? hy)
  have h3 : x = y := by omega
  subst h3
  obtain ⟨hi, e1⟩ := List.getElem?_eq_some_iff.1 hx
  obtain ⟨hj', e2⟩ := List.getElem?_eq_some_iff.1 hy
  exact List.pairwise_iff_getElem.1 hnd i j hi hj' hj (e1.trans e2.symm)

theorem RInv.new (h : RInv ord n i o pl la) (hnd : ord.Nodup) (hin : ∀ x ∈ ord, 0 ≤ x ∧ x.toNat < n) {x d : Int} (hx : ord[i]? = some x) (hd : 0 ≤ d ∧ d ≤ 2) : RInv ord n (i + 1) (o.set x.toNat (pl + d)) (pl + d + 1) [x] := by
  obtain ⟨x0, x1⟩ := hin x (List.mem_of_getElem? hx)
  have hp1 := h.p1
  have hk : x.toNat < o.length := by rw [h.len]; exact x1
  have hz := h.zero i x (Nat.le_refl _) hx
  have hno : pl + d ∉ o := fun hm => by
    have := (h.cl _ hm (by omega)).1
    have := count_pos' hm
    omega
  have hcq : (o.set x.toNat (pl + d)).count (pl + d) = 1 := by
    rw [count_setZ hk hz (by omega), if_pos rfl, List.count_eq_zero.2 hno]
  have hco : ∀ p, p ≠ 0 → p ≠ pl + d → (o.set x.toNat (pl + d)).count p = o.count p := fun p h0 h1 => by
    rw [count_setZ hk hz h0, if_neg (fun e => h1 e.symm)]; rfl
  refine ⟨by simpa using h.len, by omega, by have := h.p2; omega, fun y hy => ?_, fun j y hj hy => ?_, fun p hp h0 => ?_, fun y r e => ?_, by simp⟩
  · rcases mem_set' hy with hm | rfl
    · exact h.nn _ hm
    · omega
  · rw [getD_set' hk, if_neg (ord_ne hnd (fun x hx => (hin x hx).1) hx hy (by omega))]
    exact h.zero j y (by omega) hy
  · by_cases he : p = pl + d
    · subst he
      rw [hcq]
      refine ⟨by omega, fun q hq hlt => ?_⟩
      rcases mem_set' hq with hm | rfl
      · have := (h.cl _ hm (by omega)).1
        have := count_pos' hm
        omega
      · omega
    · rw [hco p h0 he]
      have hm : p ∈ o := by
        rcases mem_set' hp with hm | e
        · exact hm
        · exact absurd e he
      obtain ⟨q1, q2⟩ := h.cl p hm h0
      refine ⟨by omega, fun q hq hlt => ?_⟩
      rcases mem_set' hq with hm2 | rfl
      · exact q2 q hm2 hlt
      · omega
  · cases e
    rw [getD_set' hk, if_pos rfl, hcq]
    exact ⟨x0, x1, by omega, by omega⟩

structure RaceOK (n : Nat) (race : List Int) : Prop where
  len : race.length = n
  bd : ∀ x ∈ race, 0 ≤ x ∧ x ≤ 60
  cl : NoClash race
theorem RInv.race (h : RInv ord n i o pl la) (hi : i ≤ 15) : RaceOK n o := by
  have hp2 := h.p2
  refine ⟨h.len, fun x hx => ⟨h.nn x hx, ?_⟩, fun p hp h0 => ?_⟩
  · by_cases h0 : x = 0
    · omega
    · have := (h.cl x hx h0).1; omega
  · obtain ⟨q1, q2⟩ := h.cl p hp h0
    exact ⟨by omega, q2⟩
end KL
end Go.Proofs
end
namespace Go.Proofs
namespace KV
section
open KL
end
section
open KL
theorem FMM.kb {P : Program} {f : Nat} {a b r : AV} {x : Bool} {M M' : Mem} (h : FMM P f [a, b, .p (blP x)] M r M') : FMM P f [a, b, .kb x] M r M' := fun C w us hus hM n => h C w us (by
  cases hus with
  | cons _ _ u us h1 h2 =>
    cases h2 with
    | cons _ _ u2 us2 h3 h4 =>
      cases h4 with
      | cons _ _ u3 us3 h5 h6 =>
        cases h5
        exact .cons _ _ _ _ h1 (.cons _ _ _ _ h3 (.cons _ _ _ _ (.p _ _ (.v _)) h6))) hM n
structure PInv (i : Nat) (pts : List Int) (pa : Int) : Prop where
  len : pts.length = i
  pa1 : 0 ≤ pa ∧ pa ≤ 40
  bd : ∀ x ∈ pts, pa ≤ x ∧ x ≤ 40
  pw : pts.Pairwise (fun a b => b ≤ a)
theorem PInv.next {i : Nat} {pts : List Int} {pa pa' : Int} (h : PInv i pts pa) (h1 : 0 ≤ pa') (h2 : pa' ≤ pa) : PInv (i + 1) (pts ++ [pa]) pa' := by
  have := h.pa1
  refine ⟨by simp [h.len], ⟨h1, by omega⟩, fun x hx => ?_, List.pairwise_append.2 ⟨h.pw, by simp, fun a ha b hb => ?_⟩⟩
  · rcases List.mem_append.1 hx with hx | hx
    · have := h.bd x hx; omega
    · simp at hx; omega
  · simp at hb; subst hb; exact (h.bd a ha).1
end
section
open KL
end
section
open KL
noncomputable abbrev zL5c0 : Code := sub (cd Tryz.f25) [1, 1, 0, 1, 0, 0]
noncomputable abbrev zL5c1 : Code := sub (cd Tryz.f39) [1, 1, 0, 1, 0, 0]
noncomputable abbrev zL5c2 : Code := sub (cd Tryz.f87) [1, 1, 0, 1, 0, 0]
def eqi_S0 (a : List Int) (b : List Int) (i : Nat) : St := ⟨fr 26 [(0, (.p (intsP a))), (1, (.p (intsP b))), (12, (.p (intP (a.length : Int)))), (13, (.p (intP (i : Int))))], []⟩
theorem eqi_p0 {a b : List Int} (h0 : (a.length : Int) ≠ (b.length : Int)) {base : Nat} : FV Tryz.prog 25 [(.p (intsP a)), (.p (intsP b))] base (.p (blP false)) [] := by
  exact FV.fin Tryz.func25 rfl (o := [.b true]) (l := [_]) (by kernel_rfl) (gc (q_neT h0) gn)
theorem eqi_p1 {a b : List Int} {i'0 : Nat} (h0 : (a.length : Int) = (b.length : Int)) (hl1 : LoopOK Tryz.prog 0 zL5c0 (eqi_S0 a b 0) (.exit 0) (eqi_S0 a b i'0)) {base : Nat} : FV Tryz.prog 25 [(.p (intsP a)), (.p (intsP b))] base (.p (blP true)) [] := by
  exact FV.fin Tryz.func25 rfl (o := [.b false, .k 4 ⟨(rng [(2, 10), (14, 12)]), [], [], []⟩ (.exit 0) (eqi_S0 a b i'0)]) (l := [_, _]) (by kernel_rfl) (gc hl1.code (gc (q_neF h0) gn))
theorem eqi_p2 {a b : List Int} {i'0 : Nat} (h0 : (a.length : Int) = (b.length : Int)) (hl1 : LoopOK Tryz.prog 0 zL5c0 (eqi_S0 a b 0) .ret (setS (eqi_S0 a b i'0) [(4, (.kb false))])) {base : Nat} : FV Tryz.prog 25 [(.p (intsP a)), (.p (intsP b))] base (.p (blP false)) [] := by
  exact FV.fin Tryz.func25 rfl (o := [.b false, .k 4 ⟨(rng [(2, 10), (14, 12)]), [], [], []⟩ .ret (setS (eqi_S0 a b i'0) [(4, (.kb false))])]) (l := [_, _]) (by kernel_rfl) (gc hl1.code (gc (q_neF h0) gn))
theorem eqi_L0_p0 {a b : List Int} {i : Nat} {x100 x101 : Int} (h0 : (i : Int) < (a.length : Int)) (h1 : a[i]? = some x100) (h2 : b[i]? = some x101) (h3 : x100 ≠ x101) : CodeOK Tryz.prog 0 zL5c0 (eqi_S0 a b i) .ret (setS (eqi_S0 a b i) [(4, (.kb false))]) := by
  exact CodeOK.fin (g := ⟨(rng [(2, 2), (5, 7), (14, 12)]), [], [], []⟩) (o := [.b true, .x (intP x100), .x (intP x101), .b true]) (l := [_, (b.map intP)[(i * 1)]? = some (intP x101), 0 ≤ (i : Int) ∧ (i : Int) < (b.length : Int) ∧ (i * 1) < (b.map intP).length, (a.map intP)[(i * 1)]? = some (intP x100), 0 ≤ (i : Int) ∧ (i : Int) < (a.length : Int) ∧ (i * 1) < (a.map intP).length, _]) (by kernel_rfl) (gc (q_neT h3) (gc (at_map (i := i) h2) (gc (ix_map (i := (i : Int)) (Int.natCast_nonneg _) h2) (gc (at_map (i := i) h1) (gc (ix_map (i := (i : Int)) (Int.natCast_nonneg _) h1) (gc (q_lt h0) gn))))))
theorem eqi_L0_p1 {a b : List Int} {i : Nat} {x100 x101 : Int} {i' : Nat} (h0 : (i : Int) < (a.length : Int)) (h1 : a[i]? = some x100) (h2 : b[i]? = some x101) (h3 : x100 = x101) (h4 : inR (((i + 1) : Nat) : Int)) (ei' : i' = (i + 1)) : CodeOK Tryz.prog 0 zL5c0 (eqi_S0 a b i) .normal (eqi_S0 a b i') := by
  subst ei'
  exact CodeOK.fin (g := ⟨(rng [(2, 10), (14, 12)]), [], [], []⟩) (o := [.b true, .x (intP x100), .x (intP x101), .b false]) (l := [_, _, (b.map intP)[(i * 1)]? = some (intP x101), 0 ≤ (i : Int) ∧ (i : Int) < (b.length : Int) ∧ (i * 1) < (b.map intP).length, (a.map intP)[(i * 1)]? = some (intP x100), 0 ≤ (i : Int) ∧ (i : Int) < (a.length : Int) ∧ (i * 1) < (a.map intP).length, _]) (by kernel_rfl) (gc h4 (gc (q_neF h3) (gc (at_map (i := i) h2) (gc (ix_map (i := (i : Int)) (Int.natCast_nonneg _) h2) (gc (at_map (i := i) h1) (gc (ix_map (i := (i : Int)) (Int.natCast_nonneg _) h1) (gc (q_lt h0) gn)))))))
theorem eqi_L0_p2 {a b : List Int} {i : Nat} (h0 : (a.length : Int) ≤ (i : Int)) : CodeOK Tryz.prog 0 zL5c0 (eqi_S0 a b i) (.exit 0) (eqi_S0 a b i) := by
  exact CodeOK.fin (g := ⟨(rng [(2, 10), (14, 12)]), [], [], []⟩) (o := [.b false]) (l := [_]) (by kernel_rfl) (gc (q_ltF h0) gn)
def eql_S0 (a : List (List Int)) (b : List (List Int)) (i : Nat) : St := ⟨fr 26 [(0, (.p (.sl a.length (a.flatten.map intP)))), (1, (.p (.sl b.length (b.flatten.map intP)))), (12, (.p (intP (a.length : Int)))), (13, (.p (intP (i : Int))))], []⟩
theorem eql_p0 {a b : List (List Int)} (h0 : (a.length : Int) ≠ (b.length : Int)) {base : Nat} : FV Tryz.prog 39 [(.p (.sl a.length (a.flatten.map intP))), (.p (.sl b.length (b.flatten.map intP)))] base (.p (blP false)) [] := by
  exact FV.fin Tryz.func39 rfl (o := [.b true]) (l := [_]) (by kernel_rfl) (gc (q_neT h0) gn)
theorem eql_p1 {a b : List (List Int)} {i'0 : Nat} (h0 : (a.length : Int) = (b.length : Int)) (hl1 : LoopOK Tryz.prog 0 zL5c1 (eql_S0 a b 0) (.exit 0) (eql_S0 a b i'0)) {base : Nat} : FV Tryz.prog 39 [(.p (.sl a.length (a.flatten.map intP))), (.p (.sl b.length (b.flatten.map intP)))] base (.p (blP true)) [] := by
  exact FV.fin Tryz.func39 rfl (o := [.b false, .k 4 ⟨(rng [(2, 10), (14, 12)]), [], [], []⟩ (.exit 0) (eql_S0 a b i'0)]) (l := [_, _]) (by kernel_rfl) (gc hl1.code (gc (q_neF h0) gn))
theorem eql_p2 {a b : List (List Int)} {i'0 : Nat} (h0 : (a.length : Int) = (b.length : Int)) (hl1 : LoopOK Tryz.prog 0 zL5c1 (eql_S0 a b 0) .ret (setS (eql_S0 a b i'0) [(4, (.kb false))])) {base : Nat} : FV Tryz.prog 39 [(.p (.sl a.length (a.flatten.map intP))), (.p (.sl b.length (b.flatten.map intP)))] base (.p (blP false)) [] := by
  exact FV.fin Tryz.func39 rfl (o := [.b false, .k 4 ⟨(rng [(2, 10), (14, 12)]), [], [], []⟩ .ret (setS (eql_S0 a b i'0) [(4, (.kb false))])]) (l := [_, _]) (by kernel_rfl) (gc hl1.code (gc (q_neF h0) gn))
theorem eql_L0_p0 {a b : List (List Int)} {i : Nat} {y100 y101 y102 y103 y104 y105 y106 y107 : Int} (h0 : (i : Int) < (a.length : Int)) (h1 : a[i]? = some [y100, y101, y102, y103]) (h2 : uni 4 a) (h3 : b[i]? = some [y104, y105, y106, y107]) (h4 : uni 4 b) (h5 : intsOK [(intP y100), (intP y101), (intP y102), (intP y103)] [(0, 3, true), (1, 3, true), (2, 3, true), (3, 3, true)] = true ∧ intsOK [(intP y104), (intP y105), (intP y106), (intP y107)] [(0, 3, true), (1, 3, true), (2, 3, true), (3, 3, true)] = true) (h6 : (eqFs [(intP y100), (intP y101), (intP y102), (intP y103)] [(intP y104), (intP y105), (intP y106), (intP y107)] [(0, 3, true), (1, 3, true), (2, 3, true), (3, 3, true)]) = false) : CodeOK Tryz.prog 0 zL5c1 (eql_S0 a b i) .ret (setS (eql_S0 a b i) [(4, (.kb false))]) := by
  exact CodeOK.fin (g := ⟨(rng [(2, 2), (5, 7), (14, 12)]), [], [], []⟩) (o := [.b true, .x (.agg [(intP y100), (intP y101), (intP y102), (intP y103)]), .x (.agg [(intP y104), (intP y105), (intP y106), (intP y107)]), .b true]) (l := [_, _, some (.agg (((b.flatten.map intP).drop (i * 4)).take 4) : PV) = some (.agg [(intP y104), (intP y105), (intP y106), (intP y107)]), _, 0 ≤ (i : Int) ∧ (i : Int) < (b.length : Int) ∧ (i * 4) < (b.flatten.map intP).length, some (.agg (((a.flatten.map intP).drop (i * 4)).take 4) : PV) = some (.agg [(intP y100), (intP y101), (intP y102), (intP y103)]), _, 0 ≤ (i : Int) ∧ (i : Int) < (a.length : Int) ∧ (i * 4) < (a.flatten.map intP).length, _]) (by kernel_rfl) (gc (q_not h6) (gc h5 (gc (fl_load (i := i) h4 h3) (gc (fl_le (i := i) h4 h3) (gc (ix_fl (k := 4) (i := (i : Int)) (by decide) h4 (Int.natCast_nonneg _) h3) (gc (fl_load (i := i) h2 h1) (gc (fl_le (i := i) h2 h1) (gc (ix_fl (k := 4) (i := (i : Int)) (by decide) h2 (Int.natCast_nonneg _) h1) (gc (q_lt h0) gn)))))))))
theorem eql_L0_p1 {a b : List (List Int)} {i : Nat} {y100 y101 y102 y103 y104 y105 y106 y107 : Int} {i' : Nat} (h0 : (i : Int) < (a.length : Int)) (h1 : a[i]? = some [y100, y101, y102, y103]) (h2 : uni 4 a) (h3 : b[i]? = some [y104, y105, y106, y107]) (h4 : uni 4 b) (h5 : intsOK [(intP y100), (intP y101), (intP y102), (intP y103)] [(0, 3, true), (1, 3, true), (2, 3, true), (3, 3, true)] = true ∧ intsOK [(intP y104), (intP y105), (intP y106), (intP y107)] [(0, 3, true), (1, 3, true), (2, 3, true), (3, 3, true)] = true) (h6 : (eqFs [(intP y100), (intP y101), (intP y102), (intP y103)] [(intP y104), (intP y105), (intP y106), (intP y107)] [(0, 3, true), (1, 3, true), (2, 3, true), (3, 3, true)]) = true) (h7 : inR (((i + 1) : Nat) : Int)) (ei' : i' = (i + 1)) : CodeOK Tryz.prog 0 zL5c1 (eql_S0 a b i) .normal (eql_S0 a b i') := by
  subst ei'
  exact CodeOK.fin (g := ⟨(rng [(2, 10), (14, 12)]), [], [], []⟩) (o := [.b true, .x (.agg [(intP y100), (intP y101), (intP y102), (intP y103)]), .x (.agg [(intP y104), (intP y105), (intP y106), (intP y107)]), .b false]) (l := [_, _, _, some (.agg (((b.flatten.map intP).drop (i * 4)).take 4) : PV) = some (.agg [(intP y104), (intP y105), (intP y106), (intP y107)]), _, 0 ≤ (i : Int) ∧ (i : Int) < (b.length : Int) ∧ (i * 4) < (b.flatten.map intP).length, some (.agg (((a.flatten.map intP).drop (i * 4)).take 4) : PV) = some (.agg [(intP y100), (intP y101), (intP y102), (intP y103)]), _, 0 ≤ (i : Int) ∧ (i : Int) < (a.length : Int) ∧ (i * 4) < (a.flatten.map intP).length, _]) (by kernel_rfl) (gc h7 (gc (q_notF h6) (gc h5 (gc (fl_load (i := i) h4 h3) (gc (fl_le (i := i) h4 h3) (gc (ix_fl (k := 4) (i := (i : Int)) (by decide) h4 (Int.natCast_nonneg _) h3) (gc (fl_load (i := i) h2 h1) (gc (fl_le (i := i) h2 h1) (gc (ix_fl (k := 4) (i := (i : Int)) (by decide) h2 (Int.natCast_nonneg _) h1) (gc (q_lt h0) gn))))))))))
theorem eql_L0_p2 {a b : List (List Int)} {i : Nat} (h0 : (a.length : Int) ≤ (i : Int)) : CodeOK Tryz.prog 0 zL5c1 (eql_S0 a b i) (.exit 0) (eql_S0 a b i) := by
  exact CodeOK.fin (g := ⟨(rng [(2, 10), (14, 12)]), [], [], []⟩) (o := [.b false]) (l := [_]) (by kernel_rfl) (gc (q_ltF h0) gn)
def eqn_S0 (a : List (List Int)) (b : List (List Int)) (i : Nat) : St := ⟨fr 26 [(0, (.p (.sl a.length (a.flatten.map intP)))), (1, (.p (.sl b.length (b.flatten.map intP)))), (12, (.p (intP (a.length : Int)))), (13, (.p (intP (i : Int))))], []⟩
theorem eqn_p0 {a b : List (List Int)} (h0 : (a.length : Int) ≠ (b.length : Int)) {base : Nat} : FV Tryz.prog 87 [(.p (.sl a.length (a.flatten.map intP))), (.p (.sl b.length (b.flatten.map intP)))] base (.p (blP false)) [] := by
  exact FV.fin Tryz.func87 rfl (o := [.b true]) (l := [_]) (by kernel_rfl) (gc (q_neT h0) gn)
theorem eqn_p1 {a b : List (List Int)} {i'0 : Nat} (h0 : (a.length : Int) = (b.length : Int)) (hl1 : LoopOK Tryz.prog 0 zL5c2 (eqn_S0 a b 0) (.exit 0) (eqn_S0 a b i'0)) {base : Nat} : FV Tryz.prog 87 [(.p (.sl a.length (a.flatten.map intP))), (.p (.sl b.length (b.flatten.map intP)))] base (.p (blP true)) [] := by
  exact FV.fin Tryz.func87 rfl (o := [.b false, .k 4 ⟨(rng [(2, 10), (14, 12)]), [], [], []⟩ (.exit 0) (eqn_S0 a b i'0)]) (l := [_, _]) (by kernel_rfl) (gc hl1.code (gc (q_neF h0) gn))
theorem eqn_p2 {a b : List (List Int)} {i'0 : Nat} (h0 : (a.length : Int) = (b.length : Int)) (hl1 : LoopOK Tryz.prog 0 zL5c2 (eqn_S0 a b 0) .ret (setS (eqn_S0 a b i'0) [(4, (.kb false))])) {base : Nat} : FV Tryz.prog 87 [(.p (.sl a.length (a.flatten.map intP))), (.p (.sl b.length (b.flatten.map intP)))] base (.p (blP false)) [] := by
  exact FV.fin Tryz.func87 rfl (o := [.b false, .k 4 ⟨(rng [(2, 10), (14, 12)]), [], [], []⟩ .ret (setS (eqn_S0 a b i'0) [(4, (.kb false))])]) (l := [_, _]) (by kernel_rfl) (gc hl1.code (gc (q_neF h0) gn))
theorem eqn_L0_p0 {a b : List (List Int)} {i : Nat} {y100 y101 y102 y103 y104 y105 y106 y107 : Int} (h0 : (i : Int) < (a.length : Int)) (h1 : a[i]? = some [y100, y101, y102, y103]) (h2 : uni 4 a) (h3 : b[i]? = some [y104, y105, y106, y107]) (h4 : uni 4 b) (h5 : intsOK [(intP y100), (intP y101), (intP y102), (intP y103)] [(0, 3, true), (1, 3, true), (2, 3, true), (3, 3, true)] = true ∧ intsOK [(intP y104), (intP y105), (intP y106), (intP y107)] [(0, 3, true), (1, 3, true), (2, 3, true), (3, 3, true)] = true) (h6 : (eqFs [(intP y100), (intP y101), (intP y102), (intP y103)] [(intP y104), (intP y105), (intP y106), (intP y107)] [(0, 3, true), (1, 3, true), (2, 3, true), (3, 3, true)]) = false) : CodeOK Tryz.prog 0 zL5c2 (eqn_S0 a b i) .ret (setS (eqn_S0 a b i) [(4, (.kb false))]) := by
  exact CodeOK.fin (g := ⟨(rng [(2, 2), (5, 7), (14, 12)]), [], [], []⟩) (o := [.b true, .x (.agg [(intP y100), (intP y101), (intP y102), (intP y103)]), .x (.agg [(intP y104), (intP y105), (intP y106), (intP y107)]), .b true]) (l := [_, _, some (.agg (((b.flatten.map intP).drop (i * 4)).take 4) : PV) = some (.agg [(intP y104), (intP y105), (intP y106), (intP y107)]), _, 0 ≤ (i : Int) ∧ (i : Int) < (b.length : Int) ∧ (i * 4) < (b.flatten.map intP).length, some (.agg (((a.flatten.map intP).drop (i * 4)).take 4) : PV) = some (.agg [(intP y100), (intP y101), (intP y102), (intP y103)]), _, 0 ≤ (i : Int) ∧ (i : Int) < (a.length : Int) ∧ (i * 4) < (a.flatten.map intP).length, _]) (by kernel_rfl) (gc (q_not h6) (gc h5 (gc (fl_load (i := i) h4 h3) (gc (fl_le (i := i) h4 h3) (gc (ix_fl (k := 4) (i := (i : Int)) (by decide) h4 (Int.natCast_nonneg _) h3) (gc (fl_load (i := i) h2 h1) (gc (fl_le (i := i) h2 h1) (gc (ix_fl (k := 4) (i := (i : Int)) (by decide) h2 (Int.natCast_nonneg _) h1) (gc (q_lt h0) gn)))))))))
theorem eqn_L0_p1 {a b : List (List Int)} {i : Nat} {y100 y101 y102 y103 y104 y105 y106 y107 : Int} {i' : Nat} (h0 : (i : Int) < (a.length : Int)) (h1 : a[i]? = some [y100, y101, y102, y103]) (h2 : uni 4 a) (h3 : b[i]? = some [y104, y105, y106, y107]) (h4 : uni 4 b) (h5 : intsOK [(intP y100), (intP y101), (intP y102), (intP y103)] [(0, 3, true), (1, 3, true), (2, 3, true), (3, 3, true)] = true ∧ intsOK [(intP y104), (intP y105), (intP y106), (intP y107)] [(0, 3, true), (1, 3, true), (2, 3, true), (3, 3, true)] = true) (h6 : (eqFs [(intP y100), (intP y101), (intP y102), (intP y103)] [(intP y104), (intP y105), (intP y106), (intP y107)] [(0, 3, true), (1, 3, true), (2, 3, true), (3, 3, true)]) = true) (h7 : inR (((i + 1) : Nat) : Int)) (ei' : i' = (i + 1)) : CodeOK Tryz.prog 0 zL5c2 (eqn_S0 a b i) .normal (eqn_S0 a b i') := by
  subst ei'
  exact CodeOK.fin (g := ⟨(rng [(2, 10), (14, 12)]), [], [], []⟩) (o := [.b true, .x (.agg [(intP y100), (intP y101), (intP y102), (intP y103)]), .x (.agg [(intP y104), (intP y105), (intP y106), (intP y107)]), .b false]) (l := [_, _, _, some (.agg (((b.flatten.map intP).drop (i * 4)).take 4) : PV) = some (.agg [(intP y104), (intP y105), (intP y106), (intP y107)]), _, 0 ≤ (i : Int) ∧ (i : Int) < (b.length : Int) ∧ (i * 4) < (b.flatten.map intP).length, some (.agg (((a.flatten.map intP).drop (i * 4)).take 4) : PV) = some (.agg [(intP y100), (intP y101), (intP y102), (intP y103)]), _, 0 ≤ (i : Int) ∧ (i : Int) < (a.length : Int) ∧ (i * 4) < (a.flatten.map intP).length, _]) (by kernel_rfl) (gc h7 (gc (q_notF h6) (gc h5 (gc (fl_load (i := i) h4 h3) (gc (fl_le (i := i) h4 h3) (gc (ix_fl (k := 4) (i := (i : Int)) (by decide) h4 (Int.natCast_nonneg _) h3) (gc (fl_load (i := i) h2 h1) (gc (fl_le (i := i) h2 h1) (gc (ix_fl (k := 4) (i := (i : Int)) (by decide) h2 (Int.natCast_nonneg _) h1) (gc (q_lt h0) gn))))))))))
theorem eqn_L0_p2 {a b : List (List Int)} {i : Nat} (h0 : (a.length : Int) ≤ (i : Int)) : CodeOK Tryz.prog 0 zL5c2 (eqn_S0 a b i) (.exit 0) (eqn_S0 a b i) := by
  exact CodeOK.fin (g := ⟨(rng [(2, 10), (14, 12)]), [], [], []⟩) (o := [.b false]) (l := [_]) (by kernel_rfl) (gc (q_ltF h0) gn)
theorem eqi_ok (a b : List Int) (ha : a.length ≤ 100000) {base : Nat} : FV Tryz.prog 25 [.p (intsP a), .p (intsP b)] base (.p (blP (decide (a = b)))) [] := by
  by_cases hl : a.length = b.length
  · have at' : ∀ (l : List Int) (j : Nat), j < l.length → l[j]? = some (l.getD j 0) := fun l j hj => by
      rw [List.getElem?_eq_getElem hj, List.getD_eq_getElem?_getD, List.getElem?_eq_getElem hj]; rfl
    rcases LoopOK.find (P := Tryz.prog) (k := 0) (b := zL5c0) (fun i => eqi_S0 a b i) (fun i _ => setS (eqi_S0 a b i) [(4, .kb false)]) (eqi_S0 a b a.length) .ret (.exit 0) (by simp) (by simp) (fun j => decide (a.getD j 0 ≠ b.getD j 0)) (List.range a.length)
      (fun i x hx hp => by
        obtain ⟨rfl, hi⟩ := range_at hx
        exact eqi_L0_p1 (by omega) (at' a x hi) (at' b x (by omega)) (by simpa using hp) (inR_nat (by omega)) rfl)
      (fun i x hx hp => by
        obtain ⟨rfl, hi⟩ := range_at hx
        exact eqi_L0_p0 (by omega) (at' a x hi) (at' b x (by omega)) (by simpa using hp))
      (by rw [List.length_range]; exact eqi_L0_p2 (by omega)) with ⟨i, x, h1, h2, h3, h4⟩ | ⟨h1, h2, h3⟩
    · have hne : a ≠ b := fun e => by subst e; simp at h3
      rw [decide_eq_false hne]
      exact eqi_p2 (by omega) h4
    · have he : a = b := by
        refine List.ext_getElem hl fun j h5 h6 => ?_
        have h7 := List.any_eq_false.1 h2 j (List.mem_range.2 h5)
        have h8 : a.getD j 0 = b.getD j 0 := by simpa using h7
        rw [List.getD_eq_getElem?_getD, List.getD_eq_getElem?_getD, List.getElem?_eq_getElem h5, List.getElem?_eq_getElem h6] at h8
        exact h8
      rw [decide_eq_true he]
      exact eqi_p1 (by omega) h3
  · have hne : a ≠ b := fun e => hl (by rw [e])
    rw [decide_eq_false hne]
    exact eqi_p0 (by omega)
theorem eqFs4 (y0 y1 y2 y3 z0 z1 z2 z3 : Int) : eqFs [intP y0, intP y1, intP y2, intP y3] [intP z0, intP z1, intP z2, intP z3] [(0, 3, true), (1, 3, true), (2, 3, true), (3, 3, true)] = decide ([y0, y1, y2, y3] = [z0, z1, z2, z3]) := by
  rw [Bool.eq_iff_iff]
  simp [eqFs, intC, intP]
theorem eql_ok (a b : List (List Int)) (ha : a.length ≤ 100000) (ua : uni 4 a) (ub : uni 4 b) {base : Nat} : FV Tryz.prog 39 [.p (.sl a.length (a.flatten.map intP)), .p (.sl b.length (b.flatten.map intP))] base (.p (blP (decide (a = b)))) [] := by
  by_cases hl : a.length = b.length
  · have at' : ∀ (l : List (List Int)) (j : Nat), uni 4 l → j < l.length → ∃ y0 y1 y2 y3, l[j]? = some [y0, y1, y2, y3] ∧ l.getD j [] = [y0, y1, y2, y3] := fun l j hu hj => by
      have h := hu l[j] (List.getElem_mem hj)
      match e : l[j], h with
      | [y0, y1, y2, y3], _ => exact ⟨y0, y1, y2, y3, by rw [List.getElem?_eq_getElem hj, e], by rw [List.getD_eq_getElem?_getD, List.getElem?_eq_getElem hj, e]; rfl⟩
    rcases LoopOK.find (P := Tryz.prog) (k := 0) (b := zL5c1) (fun i => eql_S0 a b i) (fun i _ => setS (eql_S0 a b i) [(4, .kb false)]) (eql_S0 a b a.length) .ret (.exit 0) (by simp) (by simp) (fun j => decide (a.getD j [] ≠ b.getD j [])) (List.range a.length)
      (fun i x hx hp => by
        obtain ⟨rfl, hi⟩ := range_at hx
        obtain ⟨y0, y1, y2, y3, e1, e2⟩ := at' a x ua hi
        obtain ⟨z0, z1, z2, z3, e3, e4⟩ := at' b x ub (by omega)
        rw [e2, e4] at hp
        exact eql_L0_p1 (by omega) e1 ua e3 ub ⟨rfl, rfl⟩ (by rw [eqFs4]; simpa using hp) (inR_nat (by omega)) rfl)
      (fun i x hx hp => by
        obtain ⟨rfl, hi⟩ := range_at hx
        obtain ⟨y0, y1, y2, y3, e1, e2⟩ := at' a x ua hi
        obtain ⟨z0, z1, z2, z3, e3, e4⟩ := at' b x ub (by omega)
        rw [e2, e4] at hp
        exact eql_L0_p0 (by omega) e1 ua e3 ub ⟨rfl, rfl⟩ (by rw [eqFs4]; exact decide_eq_false (of_decide_eq_true hp)))
      (by rw [List.length_range]; exact eql_L0_p2 (by omega)) with ⟨i, x, h1, h2, h3, h4⟩ | ⟨h1, h2, h3⟩
    · have hne : a ≠ b := fun e => by subst e; simp at h3
      rw [decide_eq_false hne]
      exact eql_p2 (by omega) h4
    · have he : a = b := by
        refine List.ext_getElem hl fun j h5 h6 => ?_
        have h7 := List.any_eq_false.1 h2 j (List.mem_range.2 h5)
        have h8 : a.getD j [] = b.getD j [] := by simpa using h7
        rw [List.getD_eq_getElem?_getD, List.getD_eq_getElem?_getD, List.getElem?_eq_getElem h5, List.getElem?_eq_getElem h6] at h8
        exact h8
      rw [decide_eq_true he]
      exact eql_p1 (by omega) h3
  · have hne : a ≠ b := fun e => hl (by rw [e])
    rw [decide_eq_false hne]
    exact eql_p0 (by omega)
theorem eqn_ok (a b : List (List Int)) (ha : a.length ≤ 100000) (ua : uni 4 a) (ub : uni 4 b) {base : Nat} : FV Tryz.prog 87 [.p (.sl a.length (a.flatten.map intP)), .p (.sl b.length (b.flatten.map intP))] base (.p (blP (decide (a = b)))) [] := by
  by_cases hl : a.length = b.length
  · have at' : ∀ (l : List (List Int)) (j : Nat), uni 4 l → j < l.length → ∃ y0 y1 y2 y3, l[j]? = some [y0, y1, y2, y3] ∧ l.getD j [] = [y0, y1, y2, y3] := fun l j hu hj => by
      have h := hu l[j] (List.getElem_mem hj)
      match e : l[j], h with
      | [y0, y1, y2, y3], _ => exact ⟨y0, y1, y2, y3, by rw [List.getElem?_eq_getElem hj, e], by rw [List.getD_eq_getElem?_getD, List.getElem?_eq_getElem hj, e]; rfl⟩
    rcases LoopOK.find (P := Tryz.prog) (k := 0) (b := zL5c2) (fun i => eqn_S0 a b i) (fun i _ => setS (eqn_S0 a b i) [(4, .kb false)]) (eqn_S0 a b a.length) .ret (.exit 0) (by simp) (by simp) (fun j => decide (a.getD j [] ≠ b.getD j [])) (List.range a.length)
      (fun i x hx hp => by
        obtain ⟨rfl, hi⟩ := range_at hx
        obtain ⟨y0, y1, y2, y3, e1, e2⟩ := at' a x ua hi
        obtain ⟨z0, z1, z2, z3, e3, e4⟩ := at' b x ub (by omega)
        rw [e2, e4] at hp
        exact eqn_L0_p1 (by omega) e1 ua e3 ub ⟨rfl, rfl⟩ (by rw [eqFs4]; simpa using hp) (inR_nat (by omega)) rfl)
      (fun i x hx hp => by
        obtain ⟨rfl, hi⟩ := range_at hx
        obtain ⟨y0, y1, y2, y3, e1, e2⟩ := at' a x ua hi
        obtain ⟨z0, z1, z2, z3, e3, e4⟩ := at' b x ub (by omega)
        rw [e2, e4] at hp
        exact eqn_L0_p0 (by omega) e1 ua e3 ub ⟨rfl, rfl⟩ (by rw [eqFs4]; exact decide_eq_false (of_decide_eq_true hp)))
      (by rw [List.length_range]; exact eqn_L0_p2 (by omega)) with ⟨i, x, h1, h2, h3, h4⟩ | ⟨h1, h2, h3⟩
    · have hne : a ≠ b := fun e => by subst e; simp at h3
      rw [decide_eq_false hne]
      exact eqn_p2 (by omega) h4
    · have he : a = b := by
        refine List.ext_getElem hl fun j h5 h6 => ?_
        have h7 := List.any_eq_false.1 h2 j (List.mem_range.2 h5)
        have h8 : a.getD j [] = b.getD j [] := by simpa using h7
        rw [List.getD_eq_getElem?_getD, List.getD_eq_getElem?_getD, List.getElem?_eq_getElem h5, List.getElem?_eq_getElem h6] at h8
        exact h8
      rw [decide_eq_true he]
      exact eqn_p1 (by omega) h3
  · have hne : a ≠ b := fun e => hl (by rw [e])
    rw [decide_eq_false hne]
    exact eqn_p0 (by omega)
end
end KV
end Go.Proofs
section
namespace Go.Proofs
open Go.RowKit
namespace KL
theorem falls2_any (W : World) (x y : Int) : Calls Tryz.prog 96 #[.int .i64 x, .int .i64 y] W fun e w' => e = .returned (.int .i64 (cmpDown x y)) ∧ W = w' := by
  go_enter Tryz.func96, Tryz.ntmps96
  go_wp2_with (go_at_call 97; refine (compare_any _ _ _).mono ?_; rintro e w' ⟨rfl, rfl⟩)
  go_ret
  exact ⟨rfl, rfl⟩
def downI (l : List Int) : List Int := isort (ltC cmpDown) l
theorem insD_own (base : Nat) (v : Value) (l : List Int) (w : World) (hv : OwnI w base v l) (hlen : l.length ≤ 1000) (h1 : 1 ≤ l.length) :
    Calls Tryz.prog 175 #[v, .int .i64 0, .int .i64 l.length, .func (.func 96) #[] #[]] w fun e w' => e = .returned (.tuple #[]) ∧ OwnI w' base v (downI l) ∧ w.grownBy w' v.ownBlock := by
  have hv0 := hv
  rcases hv.2 with ⟨rfl, h0⟩ | ⟨gb, cap, cur, rfl, hb, hg, hnc, hcm, hs, ht⟩
  · omega
  · refine (insertion_ints base 3 gb l.length cap l 96 #[] cmpDown w hv0 hlen ⟨enters_of Tryz.func96 (by kernel_rfl) rfl, fun W x y _ _ _ => ?_⟩).mono ?_
    · refine (falls2_any W x y).mono ?_
      rintro e w' ⟨rfl, rfl⟩
      exact ⟨rfl, Below.refl _ _⟩
    · rintro e w' ⟨rfl, h, hg⟩
      refine ⟨rfl, ?_, hg⟩
      unfold OwnI downI
      rw [isort_length]
      exact h
end KL
namespace KV
open KL
theorem insD_ok (l : List Int) (k : Int) (hk : k = (l.length : Nat)) (hl : l.length ≤ 1000) (h1 : 1 ≤ l.length) : FMM Tryz.prog 175 [.own 0, .p (intP 0), .p (intP k), .fn 96 [] []] [some (rowI l)] (.tup []) [some (rowI (downI l))] := fun C w us hus hM n => by
  subst hk
  cases hus with
  | cons _ u _ us hu h2 =>
    cases h2 with
    | cons _ u2 _ us h3 h2 =>
      obtain ⟨u3, v, rfl, h4, h5⟩ := repL_two h2
      obtain rfl := rep_fn h5
      cases h3 with
      | p _ _ h3 =>
        cases h3
        cases h4 with
        | p _ _ h4 =>
          cases h4
          refine (callsIn_wide.2 (insD_own 0 u l w (own_in hM rfl hu) hl h1)).mono ?_
          rintro e w' ⟨rfl, h1, h2⟩
          obtain ⟨C', f, m, _⟩ := row_after (d := false) hM hu h1 h2 rfl (fun _ => ⟨rfl, isort_length _ _⟩)
          exact ⟨_, rfl, C', f, m, .tup [] #[] rfl (fun i h => by simp at h)⟩
theorem u64_bd (z : Int) : 0 ≤ IntKind.wrap .u64 z ∧ IntKind.wrap .u64 z ≤ 18446744073709551615 := by
  unfold IntKind.wrap
  simp only [IntKind.bits, IntKind.signed, Bool.false_and, Bool.false_eq_true, if_false]
  omega
theorem bitsLen_ok (n : Int) {base : Nat} : FV Tryz.prog 140 [.p (.v (.int .u64 (IntKind.wrap .u64 n)))] base (.p (intP (Lib.bitLen (IntKind.wrap .u64 n).toNat))) [] :=
  FV.of_ret (fun _ _ => .v _) rfl fun C w us hus => by
    obtain ⟨u, rfl, hu⟩ := repL_one hus
    cases hu with
    | p _ _ h =>
      cases h
      refine (Tryz.bits_Len _ w (u64_bd n).1 (u64_bd n).2).mono ?_
      rintro e w' ⟨rfl, rfl⟩
      exact ⟨rfl, Below.refl _ _⟩
theorem falls_ok (l : List Int) (hl : l.length ≤ 1000) {base : Nat} : FV Tryz.prog 93 [.p (intsP l)] base (.p (blP (fallsB l))) [] :=
  FV.of_ret (fun _ _ => .v _) rfl fun C w us hus => by
    obtain ⟨u, rfl, hu⟩ := repL_one hus
    cases hu with
    | p _ _ h => exact falls_any u l w (ints_of h) hl
end KV
end Go.Proofs
end
namespace Go.Proofs
namespace KV
section
open KL
noncomputable abbrev zN0c0 : Code := sub (cd Tryz.f22) [1, 1, 1, 1, 1, 1, 1, 0, 1, 0, 0]
noncomputable abbrev zN0c1 : Code := sub (cd Tryz.f22) [1, 1, 1, 1, 1, 1, 1, 0, 1, 0, 0, 1, 1, 0, 0, 1, 0, 1, 0, 0]
def pdq_S0 (l : List Int) (lim : Int) (dn : Nat) (dc : List PV) : St := ⟨fr 148 [(0, (.own 0)), (1, (.p (intP 0))), (2, (.p (intP (l.length : Int)))), (3, (.p (intP lim))), (4, (.fn 96 [] [])), (10, (.kb true)), (11, (.kb true))], [some (.row 3 dn dc)]⟩
theorem pdq_p0 {l : List Int} {lim : Int} {d'0 : List Int} (hl0 : LoopOK Tryz.prog 1 (sub (cd Tryz.f144) [1, 1, 0, 0]) (pdq_S0 l lim l.length (l.map intP)) .ret (pdq_S0 l lim d'0.length (d'0.map intP))) : FMM Tryz.prog 144 [(.own 0), (.p (intP 0)), (.p (intP (l.length : Int))), (.p (intP lim)), (.fn 96 [] [])] [some (.row 3 l.length (l.map intP))] (.tup []) [some (.row 3 d'0.length (d'0.map intP))] := by
  exact FMM.fin (k := 1) (g := ⟨[], [], [], []⟩) rfl Tryz.func144 rfl (o := [.k 5 ⟨(rng [(5, 5), (12, 136)]), [], [], []⟩ .ret (pdq_S0 l lim d'0.length (d'0.map intP))]) (l := [_]) (by kernel_rfl) (gc hl0.code gn)
theorem pdq_L0_p0 {l : List Int} {lim : Int} {d d' : List Int} (h0 : inR ((l.length : Int) - (0 : Int))) (h1 : ((l.length : Int) - (0 : Int)) ≤ (12 : Int)) (h2 : (l.length : Int) = (d.length : Nat)) (h3 : d.length ≤ 1000) (h4 : 1 ≤ d.length) (ed'n : d'.length = (downI d).length) (ed'c : d'.map intP = ((downI d).map intP)) : CodeOK Tryz.prog 1 (sub (cd Tryz.f144) [1, 1, 0, 0]) (pdq_S0 l lim d.length (d.map intP)) .ret (pdq_S0 l lim d'.length (d'.map intP)) := by
  have raw : CodeOK Tryz.prog 1 (sub (cd Tryz.f144) [1, 1, 0, 0]) (pdq_S0 l lim d.length (d.map intP)) .ret (pdq_S0 l lim ((downI d).length) ((downI d).map intP)) := CodeOK.fin (g := ⟨(rng [(5, 5), (12, 136)]), [], [], []⟩) (o := [.b true, .c (.tup []) [(0, (.row 3 ((downI d).length) ((downI d).map intP)))]]) (l := [FC Tryz.prog 175 [(.own 0), (.p (intP 0)), (.p (intP (l.length : Int))), (.fn 96 [] [])] [(0, (.row 3 d.length (d.map intP)))] 1 (.tup []) [(0, (.row 3 ((downI d).length) ((downI d).map intP)))], _, _]) (by kernel_rfl) (gc (FMM.fc (ids := [0]) (insD_ok d (l.length : Int) h2 h3 h4) (by kernel_rfl)) (gc (q_le h1) (gc h0 gn)))
  exact raw.cast (by rw [ed'n, ed'c])
theorem pdq_ok (l : List Int) (lim : Int) (hl : l.length ≤ 12) (h1 : 1 ≤ l.length) : FMM Tryz.prog 144 [.own 0, .p (intP 0), .p (intP (l.length : Nat)), .p (intP lim), .fn 96 [] []] [some (rowI l)] (.tup []) [some (rowI (downI l))] :=
  pdq_p0 (.exit (pdq_L0_p0 (d := l) (d' := downI l) (by unfold inR; omega) (by omega) rfl (by omega) h1 rfl rfl) (by simp))
theorem sfn_p0 {l : List Int} (h0 : l.length ≤ 12) (h1 : 1 ≤ l.length) : FMM Tryz.prog 95 [(.own 0), (.fn 96 [] [])] [some (.row 3 l.length (l.map intP))] (.tup []) [some (.row 3 ((downI l).length) ((downI l).map intP))] := by
  exact FMM.fin (k := 1) (g := ⟨[], [], [], []⟩) rfl Tryz.func95 rfl (o := [.c (.p (intP (Lib.bitLen ((IntKind.wrap .u64 (l.length : Int))).toNat : Int))) [], .c (.tup []) [(0, (.row 3 ((downI l).length) ((downI l).map intP)))]]) (l := [FC Tryz.prog 144 [(.own 0), (.p (intP 0)), (.p (intP (l.length : Int))), (.p (intP (Lib.bitLen ((IntKind.wrap .u64 (l.length : Int))).toNat : Int))), (.fn 96 [] [])] [(0, (.row 3 l.length (l.map intP)))] 1 (.tup []) [(0, (.row 3 ((downI l).length) ((downI l).map intP)))], FC Tryz.prog 140 [(.p (.v (.int .u64 (IntKind.wrap .u64 (l.length : Int)))))] [] 1 (.p (intP (Lib.bitLen ((IntKind.wrap .u64 (l.length : Int))).toNat : Int))) []]) (by kernel_rfl) (gc (FMM.fc (ids := [0]) (pdq_ok l (Lib.bitLen ((IntKind.wrap .u64 (l.length : Int))).toNat : Int) h0 h1) (by kernel_rfl)) (gc (FV.fc (bitsLen_ok (l.length : Int)) rfl) gn))
theorem nat_p7 {c : Cup} {ns : List Int} {mo : Int} {qs : List Int} {o0 : PV} {e1 : Int} (h0 : KL.Small c) (h1 : (checkP c) = (0 : Int)) (h2 : (ns.length : Int) = c.sk) (h3 : (within (qs.length : Int) (1 : Int) (31 : Int)) = true) (h4 : small ns.length) (h5 : (ns.all fun x => within x 0 30) = true) (h6 : (within mo (1 : Int) (12 : Int)) = true) (h7 : small qs.length) (h8 : (qs.all fun x => within x 0 20) = true) (h9 : qs.length ≤ 1000) (h10 : (KL.fallsB qs) = true) (hl11 : CodeOK Tryz.prog 0 (sub (cd Tryz.f22) [1, 1, 1]) ⟨fr 161 [(1, (.p (intsP ns))), (2, (.p (intP mo))), (3, (.p (intsP qs))), (10, (.ptr 0 0))], [some (.box 120 [(.p (intP c.sk)), (.p (intP c.ra)), (.p (intP c.be)), (.p (intsP c.pts)), (.p (rowsP c.done))])]⟩ .ret ⟨fr 161 [(8, (.p o0)), (9, (.p (intP e1)))], []⟩) {base : Nat} : FV Tryz.prog 22 [(.p (cupP c)), (.p (intsP ns)), (.p (intP mo)), (.p (intsP qs))] base (.tup [(.p o0), (.p (intP e1))]) [] := by
  exact FV.fin Tryz.func22 rfl (o := [.c (.tup [(.p (cupP c)), (.p (intP (checkP c)))]) [], .b false, .b false, .b false, .b false, .c (.p (blP (within (qs.length : Int) (1 : Int) (31 : Int)))) [], .b false, .b false, .b false, .c (.p (blP (ns.all fun x => within x 0 30))) [], .b false, .b false, .c (.p (blP (within mo (1 : Int) (12 : Int)))) [], .b false, .b false, .b false, .b false, .c (.p (blP (qs.all fun x => within x 0 20))) [], .b false, .b false, .b false, .c (.p (blP (KL.fallsB qs))) [], .b false, .k 0 ⟨(rng [(0, 1), (4, 6), (11, 150)]), [1], [], []⟩ .ret ⟨fr 161 [(8, (.p o0)), (9, (.p (intP e1)))], []⟩]) (l := [CodeOK Tryz.prog 0 (sub (cd Tryz.f22) [1, 1, 1]) ⟨fr 161 [(1, (.p (intsP ns))), (2, (.p (intP mo))), (3, (.p (intsP qs))), (10, (.ptr 0 0))], [some (.box 120 [(.p (intP c.sk)), (.p (intP c.ra)), (.p (intP c.be)), (.p (intsP c.pts)), (.p (rowsP c.done))])]⟩ .ret ⟨fr 161 [(8, (.p o0)), (9, (.p (intP e1)))], []⟩, _, FC Tryz.prog 93 [(.p (intsP qs))] [] 2 (.p (blP (KL.fallsB qs))) [], _, _, _, FC Tryz.prog 90 [(.p (intsP qs)), (.fn 92 [] [])] [] 2 (.p (blP (qs.all fun x => within x 0 20))) [], _, _, _, _, FC Tryz.prog 89 [(.p (intP mo)), (.p (intP 1)), (.p (intP 12))] [] 2 (.p (blP (within mo (1 : Int) (12 : Int)))) [], _, _, FC Tryz.prog 90 [(.p (intsP ns)), (.fn 91 [] [])] [] 2 (.p (blP (ns.all fun x => within x 0 30))) [], _, _, _, FC Tryz.prog 89 [(.p (intP (qs.length : Int))), (.p (intP 1)), (.p (intP 31))] [] 2 (.p (blP (within (qs.length : Int) (1 : Int) (31 : Int)))) [], _, _, _, _, FC Tryz.prog 88 [(.p (cupP c))] [] 1 (.tup [(.p (cupP c)), (.p (intP (checkP c)))]) []]) (by kernel_rfl) (gc hl11 (gc (q_notF h10) (gc (FV.fc (falls_ok qs h9) rfl) (gc (q_notF h8) (gc (q_notF h6) (gc (q_notF h6) (gc (FV.fc (all92_ok qs h7) rfl) (gc (q_notF h6) (gc (q_notF h6) (gc (q_notF h5) (gc (q_notF h5) (gc (FV.fc (within_ok mo (1 : Int) (12 : Int)) rfl) (gc (q_notF h5) (gc (q_notF h5) (gc (FV.fc (all91_ok ns h4) rfl) (gc (q_notF h3) (gc (q_neF h2) (gc (q_neF h2) (gc (FV.fc (within_ok (qs.length : Int) (1 : Int) (31 : Int)) rfl) (gc (q_neF h2) (gc (q_neF h2) (gc (q_neF h2) (gc (q_neF h1) (gc (FV.fc (asked_ok c h0) rfl) gn))))))))))))))))))))))))
theorem n11_p0 {c : Cup} {ns : List Int} {mo : Int} {qs : List Int} {mv : PV} (h0 : KL.Valid c) : CodeOK Tryz.prog 0 (sub (cd Tryz.f22) [1, 1, 1, 1, 0, 0]) ⟨fr 161 [(1, (.p (intsP ns))), (2, (.p (intP mo))), (3, (.p (intsP qs))), (10, (.ptr 0 0)), (12, (.p mv))], [some (.box 120 [(.p (intP c.sk)), (.p (intP c.ra)), (.p (intP c.be)), (.p (intsP c.pts)), (.p (rowsP c.done))])]⟩ .normal ⟨fr 161 [(1, (.p (intsP ns))), (2, (.p (intP mo))), (3, (.p (intsP qs))), (12, (.p mv)), (63, (.p (intsP (totalsM c)))), (64, (.p (intP (((totalsM c).length : Nat) : Int)))), (65, (.p (intP 0)))], []⟩ := by
  exact CodeOK.fin (g := ⟨(rng [(0, 1), (4, 8), (13, 50), (66, 95)]), [], [], []⟩) (o := [.c (.p (intsP (totalsM c))) []]) (l := [FC Tryz.prog 94 [(.p (cupP c))] [] 1 (.p (intsP (totalsM c))) []]) (by kernel_rfl) (gc (FV.fc (totals_ok c h0) rfl) gn)
theorem n12_p0 {ns : List Int} {mo : Int} {qs : List Int} {mv : PV} {ts : List Int} {i : Nat} : CodeOK Tryz.prog 0 (sub (cd Tryz.f22) [1, 1, 1, 1, 0, 1, 0, 0, 0]) ⟨fr 161 [(1, (.p (intsP ns))), (2, (.p (intP mo))), (3, (.p (intsP qs))), (12, (.p mv)), (63, (.p (intsP ts))), (64, (.p (intP (ts.length : Int)))), (65, (.p (intP (i : Int))))], []⟩ .normal ⟨fr 161 [(1, (.p (intsP ns))), (2, (.p (intP mo))), (3, (.p (intsP qs))), (12, (.p mv)), (63, (.p (intsP ts))), (64, (.p (intP (ts.length : Int)))), (65, (.p (intP (i : Int)))), (66, (.p (blP (decide ((i : Int) < (ts.length : Int))))))], []⟩ := by
  exact CodeOK.fin (g := ⟨(rng [(0, 1), (4, 8), (13, 50), (67, 94)]), [], [], []⟩) (o := []) (l := []) (by kernel_rfl) (gn)
theorem n12c_p0 {ns : List Int} {mo : Int} {qs : List Int} {mv : PV} {ts : List Int} {i : Nat} (h0 : (i : Int) < (ts.length : Int)) : CodeOK Tryz.prog 0 (sub (cd Tryz.f22) [1, 1, 1, 1, 0, 1, 0, 0, 1, 0]) ⟨fr 161 [(1, (.p (intsP ns))), (2, (.p (intP mo))), (3, (.p (intsP qs))), (12, (.p mv)), (63, (.p (intsP ts))), (64, (.p (intP (ts.length : Int)))), (65, (.p (intP (i : Int)))), (66, (.p (blP (decide ((i : Int) < (ts.length : Int))))))], []⟩ .normal ⟨fr 161 [(1, (.p (intsP ns))), (2, (.p (intP mo))), (3, (.p (intsP qs))), (12, (.p mv)), (63, (.p (intsP ts))), (64, (.p (intP (ts.length : Int)))), (65, (.p (intP (i : Int))))], []⟩ := by
  exact CodeOK.fin (g := ⟨(rng [(0, 1), (4, 8), (13, 50), (66, 95)]), [], [], []⟩) (o := [.b true]) (l := [_]) (by kernel_rfl) (gc (q_lt h0) gn)
theorem n12c_p1 {ns : List Int} {mo : Int} {qs : List Int} {mv : PV} {ts : List Int} {i : Nat} (h0 : (ts.length : Int) ≤ (i : Int)) : CodeOK Tryz.prog 0 (sub (cd Tryz.f22) [1, 1, 1, 1, 0, 1, 0, 0, 1, 0]) ⟨fr 161 [(1, (.p (intsP ns))), (2, (.p (intP mo))), (3, (.p (intsP qs))), (12, (.p mv)), (63, (.p (intsP ts))), (64, (.p (intP (ts.length : Int)))), (65, (.p (intP (i : Int)))), (66, (.p (blP (decide ((i : Int) < (ts.length : Int))))))], []⟩ (.exit 1) ⟨fr 161 [(1, (.p (intsP ns))), (2, (.p (intP mo))), (3, (.p (intsP qs))), (12, (.p mv)), (63, (.p (intsP ts))), (64, (.p (intP (ts.length : Int)))), (65, (.p (intP (i : Int))))], []⟩ := by
  exact CodeOK.fin (g := ⟨(rng [(0, 1), (4, 8), (13, 50), (66, 95)]), [], [], []⟩) (o := [.b false]) (l := [_]) (by kernel_rfl) (gc (q_ltF h0) gn)
theorem n13_p0 {ns : List Int} {mo : Int} {qs : List Int} {mv : PV} {ts : List Int} {i : Nat} {x0 : Int} (h0 : ts[i]? = some x0) : CodeOK Tryz.prog 0 (sub (cd Tryz.f22) [1, 1, 1, 1, 0, 1, 0, 0, 1, 1, 0, 0, 0]) ⟨fr 161 [(1, (.p (intsP ns))), (2, (.p (intP mo))), (3, (.p (intsP qs))), (12, (.p mv)), (63, (.p (intsP ts))), (64, (.p (intP (ts.length : Int)))), (65, (.p (intP (i : Int))))], []⟩ .normal ⟨fr 161 [(1, (.p (intsP ns))), (2, (.p (intP mo))), (3, (.p (intsP qs))), (12, (.p mv)), (13, (.p (intP (i : Int)))), (14, (.p (intP x0))), (63, (.p (intsP ts))), (64, (.p (intP (ts.length : Int)))), (65, (.p (intP (i : Int))))], []⟩ := by
  exact CodeOK.fin (g := ⟨(rng [(0, 1), (4, 8), (15, 48), (66, 95)]), [], [], []⟩) (o := [.x (intP x0)]) (l := [(ts.map intP)[(i * 1)]? = some (intP x0), 0 ≤ (i : Int) ∧ (i : Int) < (ts.length : Int) ∧ (i * 1) < (ts.map intP).length]) (by kernel_rfl) (gc (at_map (i := i) h0) (gc (ix_map (i := (i : Int)) (Int.natCast_nonneg _) h0) gn))
theorem n15_p0 {ns : List Int} {mo : Int} {qs : List Int} {mv : PV} {ts : List Int} {i : Nat} {x : Int} (h0 : inR (((i + 1) : Nat) : Int)) : CodeOK Tryz.prog 0 (sub (cd Tryz.f22) [1, 1, 1, 1, 0, 1, 0, 0, 1, 1, 1]) ⟨fr 161 [(1, (.p (intsP ns))), (2, (.p (intP mo))), (3, (.p (intsP qs))), (12, (.p mv)), (13, (.p (intP (i : Int)))), (14, (.p (intP x))), (63, (.p (intsP ts))), (64, (.p (intP (ts.length : Int)))), (65, (.p (intP (i : Int))))], []⟩ .normal ⟨fr 161 [(1, (.p (intsP ns))), (2, (.p (intP mo))), (3, (.p (intsP qs))), (12, (.p mv)), (63, (.p (intsP ts))), (64, (.p (intP (ts.length : Int)))), (65, (.p (intP (((i + 1) : Nat) : Int))))], []⟩ := by
  exact CodeOK.fin (g := ⟨(rng [(0, 1), (4, 8), (13, 50), (66, 95)]), [], [], []⟩) (o := []) (l := [_]) (by kernel_rfl) (gc h0 gn)
theorem n16_p0 {ns : List Int} {mo : Int} {qs : List Int} {mv : PV} {ts : List Int} {i : Nat} : CodeOK Tryz.prog 0 (sub (cd Tryz.f22) [1, 1, 1, 1, 1, 0]) ⟨fr 161 [(1, (.p (intsP ns))), (2, (.p (intP mo))), (3, (.p (intsP qs))), (12, (.p mv)), (63, (.p (intsP ts))), (64, (.p (intP (ts.length : Int)))), (65, (.p (intP (i : Int))))], []⟩ .normal ⟨fr 161 [(1, (.p (intsP ns))), (2, (.p (intP mo))), (3, (.p (intsP qs))), (12, (.p mv)), (15, (.p nilS))], []⟩ := by
  exact CodeOK.fin (g := ⟨(rng [(0, 1), (4, 8), (13, 2), (16, 145)]), [], [], []⟩) (o := []) (l := []) (by kernel_rfl) (gn)
theorem n17_p0 {ns : List Int} {mo : Int} {qs : List Int} {mv : PV} : CodeOK Tryz.prog 0 (sub (cd Tryz.f22) [1, 1, 1, 1, 1, 1, 0, 0]) ⟨fr 161 [(1, (.p (intsP ns))), (2, (.p (intP mo))), (3, (.p (intsP qs))), (12, (.p mv)), (15, (.p nilS))], []⟩ .normal ⟨fr 161 [(1, (.p (intsP ns))), (2, (.p (intP mo))), (3, (.p (intsP qs))), (12, (.p mv)), (15, (.own 0)), (85, (.p (intP 0)))], [some (.row 40 0 [])]⟩ := by
  exact CodeOK.fin (g := ⟨(rng [(0, 1), (4, 8), (13, 2), (16, 69), (86, 75)]), [0], [], [(15, 40)]⟩) (o := []) (l := []) (by kernel_rfl) (gn)
theorem n18_p0 {ns : List Int} {mo : Int} {qs : List Int} {mv : PV} {n : Nat} {o : List (List Int)} : CodeOK Tryz.prog 0 (sub (cd Tryz.f22) [1, 1, 1, 1, 1, 1, 0, 1, 0, 0, 0]) ⟨fr 161 [(1, (.p (intsP ns))), (2, (.p (intP mo))), (3, (.p (intsP qs))), (12, (.p mv)), (15, (.own 0)), (85, (.p (intP (n : Int))))], [some (.row 40 o.length (o.flatten.map intP))]⟩ .normal ⟨fr 161 [(1, (.p (intsP ns))), (2, (.p (intP mo))), (3, (.p (intsP qs))), (12, (.p mv)), (15, (.own 0)), (85, (.p (intP (n : Int)))), (86, (.p (blP (decide ((n : Int) < (31 : Int))))))], [some (.row 40 o.length (o.flatten.map intP))]⟩ := by
  exact CodeOK.fin (g := ⟨(rng [(0, 1), (4, 8), (13, 2), (16, 69), (87, 74)]), [0], [], []⟩) (o := []) (l := []) (by kernel_rfl) (gn)
theorem n18c_p0 {ns : List Int} {mo : Int} {qs : List Int} {mv : PV} {n : Nat} {o : List (List Int)} (h0 : (n : Int) < (31 : Int)) : CodeOK Tryz.prog 0 (sub (cd Tryz.f22) [1, 1, 1, 1, 1, 1, 0, 1, 0, 0, 1, 0]) ⟨fr 161 [(1, (.p (intsP ns))), (2, (.p (intP mo))), (3, (.p (intsP qs))), (12, (.p mv)), (15, (.own 0)), (85, (.p (intP (n : Int)))), (86, (.p (blP (decide ((n : Int) < (31 : Int))))))], [some (.row 40 o.length (o.flatten.map intP))]⟩ .normal ⟨fr 161 [(1, (.p (intsP ns))), (2, (.p (intP mo))), (3, (.p (intsP qs))), (12, (.p mv)), (15, (.own 0)), (85, (.p (intP (n : Int))))], [some (.row 40 o.length (o.flatten.map intP))]⟩ := by
  exact CodeOK.fin (g := ⟨(rng [(0, 1), (4, 8), (13, 2), (16, 69), (86, 75)]), [0], [], []⟩) (o := [.b true]) (l := [_]) (by kernel_rfl) (gc (q_lt h0) gn)
theorem n18c_p1 {ns : List Int} {mo : Int} {qs : List Int} {mv : PV} {n : Nat} {o : List (List Int)} (h0 : (31 : Int) ≤ (n : Int)) : CodeOK Tryz.prog 0 (sub (cd Tryz.f22) [1, 1, 1, 1, 1, 1, 0, 1, 0, 0, 1, 0]) ⟨fr 161 [(1, (.p (intsP ns))), (2, (.p (intP mo))), (3, (.p (intsP qs))), (12, (.p mv)), (15, (.own 0)), (85, (.p (intP (n : Int)))), (86, (.p (blP (decide ((n : Int) < (31 : Int))))))], [some (.row 40 o.length (o.flatten.map intP))]⟩ (.exit 3) ⟨fr 161 [(1, (.p (intsP ns))), (2, (.p (intP mo))), (3, (.p (intsP qs))), (12, (.p mv)), (15, (.own 0)), (85, (.p (intP (n : Int))))], [some (.row 40 o.length (o.flatten.map intP))]⟩ := by
  exact CodeOK.fin (g := ⟨(rng [(0, 1), (4, 8), (13, 2), (16, 69), (86, 75)]), [0], [], []⟩) (o := [.b false]) (l := [_]) (by kernel_rfl) (gc (q_ltF h0) gn)
theorem n19_p0 {ns : List Int} {mo : Int} {qs : List Int} {mv : PV} {n : Nat} {o : List (List Int)} : CodeOK Tryz.prog 0 (sub (cd Tryz.f22) [1, 1, 1, 1, 1, 1, 0, 1, 0, 0, 1, 1, 0, 0, 0]) ⟨fr 161 [(1, (.p (intsP ns))), (2, (.p (intP mo))), (3, (.p (intsP qs))), (12, (.p mv)), (15, (.own 0)), (85, (.p (intP (n : Int))))], [some (.row 40 o.length (o.flatten.map intP))]⟩ .normal ⟨fr 161 [(1, (.p (intsP ns))), (2, (.p (intP mo))), (3, (.p (intsP qs))), (12, (.p mv)), (15, (.own 0)), (16, (.p (intP (n : Int)))), (85, (.p (intP (n : Int))))], [some (.row 40 o.length (o.flatten.map intP))]⟩ := by
  exact CodeOK.fin (g := ⟨(rng [(0, 1), (4, 8), (13, 2), (17, 68), (86, 75)]), [0], [], []⟩) (o := []) (l := []) (by kernel_rfl) (gn)
theorem n21n_p0 {ns : List Int} {mo : Int} {qs : List Int} {mv : PV} {n : Nat} {o : List (List Int)} : CodeOK Tryz.prog 0 (sub (cd Tryz.f22) [1, 1, 1, 1, 1, 1, 0, 1, 0, 0, 1, 1, 0, 0, 1, 1, 0]) ⟨fr 161 [(1, (.p (intsP ns))), (2, (.p (intP mo))), (3, (.p (intsP qs))), (12, (.p mv)), (15, (.own 0)), (16, (.p (intP (n : Int)))), (17, (.p nilS)), (85, (.p (intP (n : Int))))], [some (.row 40 o.length (o.flatten.map intP))]⟩ (.exit 4) ⟨fr 161 [(1, (.p (intsP ns))), (2, (.p (intP mo))), (3, (.p (intsP qs))), (12, (.p mv)), (15, (.own 0)), (85, (.p (intP (n : Int))))], [some (.row 40 o.length (o.flatten.map intP))]⟩ := by
  exact CodeOK.fin (g := ⟨(rng [(0, 1), (4, 8), (13, 2), (16, 69), (86, 75)]), [0], [], []⟩) (o := []) (l := []) (by kernel_rfl) (gn)
theorem n21_p0 {ns : List Int} {mo : Int} {qs : List Int} {mv : PV} {n : Nat} {o : List (List Int)} {y : Int} {l : List Int} : CodeOK Tryz.prog 0 (sub (cd Tryz.f22) [1, 1, 1, 1, 1, 1, 0, 1, 0, 0, 1, 1, 0, 0, 1, 1, 0]) ⟨fr 161 [(1, (.p (intsP ns))), (2, (.p (intP mo))), (3, (.p (intsP qs))), (12, (.p mv)), (15, (.own 0)), (16, (.p (intP (n : Int)))), (17, (.own 1)), (85, (.p (intP (n : Int))))], [some (.row 40 o.length (o.flatten.map intP)), some (.row 3 (l.length + 1) ((intP y) :: (l.map intP)))]⟩ .normal ⟨fr 161 [(1, (.p (intsP ns))), (2, (.p (intP mo))), (3, (.p (intsP qs))), (12, (.p mv)), (15, (.own 0)), (16, (.p (intP (n : Int)))), (17, (.own 1)), (85, (.p (intP (n : Int))))], [some (.row 40 o.length (o.flatten.map intP)), some (.row 3 (l.length + 1) ((intP y) :: (l.map intP)))]⟩ := by
  exact CodeOK.fin (g := ⟨(rng [(0, 1), (4, 8), (13, 2), (18, 67), (86, 75)]), [0, 1], [], []⟩) (o := []) (l := []) (by kernel_rfl) (gn)
theorem n22_p0 {ns : List Int} {mo : Int} {qs : List Int} {mv : PV} {n : Nat} {o : List (List Int)} {y : Int} {l l0 : List Int} {o0 : List (List Int)} (h0 : ((y :: l)).length ≤ 12) (h1 : 1 ≤ ((y :: l)).length) (h2 : 0 ≤ (0 : Int) ∧ (0 : Int) ≤ (if mo < (((downI (y :: l)).length : Nat) : Int) then mo else (((downI (y :: l)).length : Nat) : Int)) ∧ (if mo < (((downI (y :: l)).length : Nat) : Int) then mo else (((downI (y :: l)).length : Nat) : Int)) ≤ (((downI (y :: l)).length : Nat) : Int)) (h3 : ((if mo < (((downI (y :: l)).length : Nat) : Int) then mo else (((downI (y :: l)).length : Nat) : Int)).toNat - 0) = l0.length) (h4 : ((((downI (y :: l)).map intP).drop 0).take (((if mo < (((downI (y :: l)).length : Nat) : Int) then mo else (((downI (y :: l)).length : Nat) : Int)).toNat - 0) * (((downI (y :: l)).map intP).length / ((downI (y :: l)).length)))) = l0.map intP) (h5 : small l0.length) (h6 : ∀ k, inR (l0.take k).sum) (h7 : [(intP (n : Int)), (intP 1), (intP l0.sum), (intP 0)].length = 1 * 4 ∧ o.length + 1 ≤ 1000000) (eo0n : o0.length = (o.length + 1)) (eo0c : o0.flatten.map intP = ((o.flatten.map intP) ++ [(intP (n : Int)), (intP 1), (intP l0.sum), (intP 0)])) : CodeOK Tryz.prog 0 (sub (cd Tryz.f22) [1, 1, 1, 1, 1, 1, 0, 1, 0, 0, 1, 1, 0, 0, 1, 1, 1]) ⟨fr 161 [(1, (.p (intsP ns))), (2, (.p (intP mo))), (3, (.p (intsP qs))), (12, (.p mv)), (15, (.own 0)), (16, (.p (intP (n : Int)))), (17, (.own 1)), (85, (.p (intP (n : Int))))], [some (.row 40 o.length (o.flatten.map intP)), some (.row 3 (l.length + 1) ((intP y) :: (l.map intP)))]⟩ .normal ⟨fr 161 [(1, (.p (intsP ns))), (2, (.p (intP mo))), (3, (.p (intsP qs))), (12, (.p mv)), (15, (.own 0)), (85, (.p (intP (n : Int))))], [some (.row 40 o0.length (o0.flatten.map intP))]⟩ := by
  have raw : CodeOK Tryz.prog 0 (sub (cd Tryz.f22) [1, 1, 1, 1, 1, 1, 0, 1, 0, 0, 1, 1, 0, 0, 1, 1, 1]) ⟨fr 161 [(1, (.p (intsP ns))), (2, (.p (intP mo))), (3, (.p (intsP qs))), (12, (.p mv)), (15, (.own 0)), (16, (.p (intP (n : Int)))), (17, (.own 1)), (85, (.p (intP (n : Int))))], [some (.row 40 o.length (o.flatten.map intP)), some (.row 3 (l.length + 1) ((intP y) :: (l.map intP)))]⟩ .normal ⟨fr 161 [(1, (.p (intsP ns))), (2, (.p (intP mo))), (3, (.p (intsP qs))), (12, (.p mv)), (15, (.own 0)), (85, (.p (intP (n : Int))))], [some (.row 40 (o.length + 1) ((o.flatten.map intP) ++ [(intP (n : Int)), (intP 1), (intP l0.sum), (intP 0)]))]⟩ := CodeOK.fin (g := ⟨(rng [(0, 1), (4, 8), (13, 2), (16, 69), (86, 75)]), [3], [], []⟩) (o := [.c (.tup []) [(1, (.row 3 ((downI (y :: l)).length) ((downI (y :: l)).map intP)))], .c (.p (intP l0.sum)) []]) (l := [_, [(intP (n : Int)), (intP 1), (intP l0.sum), (intP 0)].length = 4, FC Tryz.prog 98 [(.arr 1 0 ((if mo < (((downI (y :: l)).length : Nat) : Int) then mo else (((downI (y :: l)).length : Nat) : Int)).toNat - 0))] [(1, (.row 3 ((downI (y :: l)).length) ((downI (y :: l)).map intP)))] 2 (.p (intP l0.sum)) [], _, FC Tryz.prog 95 [(.own 1), (.fn 96 [] [])] [(1, (.row 3 (l.length + 1) ((intP y) :: (l.map intP))))] 2 (.tup []) [(1, (.row 3 ((downI (y :: l)).length) ((downI (y :: l)).map intP)))]]) (by kernel_rfl) (gc h7 (gc (by first | decide | simp) (gc (FV.view (args' := [(.p (.sl ((if mo < (((downI (y :: l)).length : Nat) : Int) then mo else (((downI (y :: l)).length : Nat) : Int)).toNat - 0) ((((downI (y :: l)).map intP).drop 0).take (((if mo < (((downI (y :: l)).length : Nat) : Int) then mo else (((downI (y :: l)).length : Nat) : Int)).toNat - 0) * (((downI (y :: l)).map intP).length / ((downI (y :: l)).length))))))]) (by rw [show ((.sl ((if mo < (((downI (y :: l)).length : Nat) : Int) then mo else (((downI (y :: l)).length : Nat) : Int)).toNat - 0) ((((downI (y :: l)).map intP).drop 0).take (((if mo < (((downI (y :: l)).length : Nat) : Int) then mo else (((downI (y :: l)).length : Nat) : Int)).toNat - 0) * (((downI (y :: l)).map intP).length / ((downI (y :: l)).length))))) : PV) = intsP l0 from sl_cast h3 h4]; exact (sum_ok l0 h5 h6)) (by kernel_rfl) (by kernel_rfl) (by kernel_rfl)) (gc h2 (gc (FMM.fc (ids := [1]) (sfn_p0 (l := (y :: l)) h0 h1) (by kernel_rfl)) gn)))))
  exact raw.cast (by rw [eo0n, eo0c])
theorem n24_p0 {ns : List Int} {mo : Int} {qs : List Int} {mv : PV} {n : Nat} {o : List (List Int)} (h0 : inR (((n + 1) : Nat) : Int)) : CodeOK Tryz.prog 0 (sub (cd Tryz.f22) [1, 1, 1, 1, 1, 1, 0, 1, 0, 0, 1, 1, 1]) ⟨fr 161 [(1, (.p (intsP ns))), (2, (.p (intP mo))), (3, (.p (intsP qs))), (12, (.p mv)), (15, (.own 0)), (85, (.p (intP (n : Int))))], [some (.row 40 o.length (o.flatten.map intP))]⟩ .normal ⟨fr 161 [(1, (.p (intsP ns))), (2, (.p (intP mo))), (3, (.p (intsP qs))), (12, (.p mv)), (15, (.own 0)), (85, (.p (intP (((n + 1) : Nat) : Int))))], [some (.row 40 o.length (o.flatten.map intP))]⟩ := by
  exact CodeOK.fin (g := ⟨(rng [(0, 1), (4, 8), (13, 2), (16, 69), (86, 75)]), [0], [], []⟩) (o := []) (l := [_]) (by kernel_rfl) (gc h0 gn)
def nat_S2 (qs : List Int) (o : List (List Int)) (i : Nat) (pn : Nat) (pc : List PV) : St := ⟨fr 161 [(3, (.p (intsP qs))), (15, (.own 0)), (109, (.p (intP (o.length : Int)))), (110, (.p (intP (i : Int))))], [some (.row 40 pn pc)]⟩
theorem n25_p0 {qs : List Int} {o : List (List Int)} {i'0 : Nat} {p'1 : List (List Int)} (hl0 : LoopOK Tryz.prog 0 zN0c0 (nat_S2 qs o 0 o.length (o.flatten.map intP)) (.exit 5) (nat_S2 qs o i'0 p'1.length (p'1.flatten.map intP))) (h1 : uni 4 p'1) (h2 : p'1.length < 20) : CodeOK Tryz.prog 0 (sub (cd Tryz.f22) [1, 1, 1, 1, 1, 1, 1]) ⟨fr 161 [(3, (.p (intsP qs))), (15, (.own 0))], [some (.row 40 o.length (o.flatten.map intP))]⟩ .ret ⟨fr 161 [(8, (.p (.sl ((isort (ltK 1) p'1).length) ((isort (ltK 1) p'1).flatten.map intP)))), (9, (.p (intP 0)))], []⟩ := by
  exact CodeOK.fin (g := ⟨(rng [(0, 8), (10, 151)]), [], [0], []⟩) (o := [.k 4 ⟨(rng [(0, 3), (4, 4), (10, 5), (16, 93), (111, 47), (159, 1)]), [0], [], []⟩ (.exit 5) (nat_S2 qs o i'0 p'1.length (p'1.flatten.map intP)), .c (.tup []) [(0, (.row 40 ((isort (ltK 1) p'1).length) ((isort (ltK 1) p'1).flatten.map intP)))]]) (l := [FC Tryz.prog 99 [(.own 0), (.fn 100 [] [])] [(0, (.row 40 p'1.length (p'1.flatten.map intP)))] 1 (.tup []) [(0, (.row 40 ((isort (ltK 1) p'1).length) ((isort (ltK 1) p'1).flatten.map intP)))], _]) (by kernel_rfl) (gc (FMM.fc (ids := [0]) (srtN_ok p'1 h1 h2) (by kernel_rfl)) (gc hl0.code gn))
def nat_S3 (qs : List Int) (o : List (List Int)) (i : Nat) (p : List (List Int)) (j : Nat) (rn : Nat) (rc : List PV) : St := ⟨fr 161 [(3, (.p (intsP qs))), (15, (.own 0)), (18, (.p (intP (i : Int)))), (109, (.p (intP (o.length : Int)))), (110, (.p (intP (i : Int)))), (111, (.p (blP (decide ((i : Int) < (o.length : Int)))))), (112, (.p (intP (i : Int)))), (113, (.own 0)), (114, (.p (intP (p.length : Int)))), (115, (.p (intP (j : Int))))], [some (.row 40 rn rc)]⟩
theorem nat_L2_p0 {qs : List Int} {o : List (List Int)} {i : Nat} {p : List (List Int)} {j'300 : Nat} {r'301 : List (List Int)} {y302 y303 y304 y305 x306 : Int} {i' : Nat} {p' : List (List Int)} (h0 : (i : Int) < (o.length : Int)) (hl1 : LoopOK Tryz.prog 0 zN0c1 (nat_S3 qs o i p 0 p.length (p.flatten.map intP)) (.exit 7) (nat_S3 qs o i p j'300 r'301.length (r'301.flatten.map intP))) (h2 : r'301[i]? = some [y302, y303, y304, y305]) (h3 : uni 4 r'301) (h4 : y303 ≤ (qs.length : Int)) (h5 : inR (y303 - (1 : Int))) (h6 : qs[(y303 - (1 : Int)).toNat]? = some x306) (h7 : 0 ≤ (y303 - (1 : Int))) (h8 : ((i * 4) + 3) < (r'301.flatten.map intP).length) (h9 : inR (((i + 1) : Nat) : Int)) (ei' : i' = (i + 1)) (ep'n : p'.length = r'301.length) (ep'c : p'.flatten.map intP = ((r'301.flatten.map intP).set ((i * 4) + 3) (intP x306))) : CodeOK Tryz.prog 0 zN0c0 (nat_S2 qs o i p.length (p.flatten.map intP)) .normal (nat_S2 qs o i' p'.length (p'.flatten.map intP)) := by
  subst ei'
  have raw : CodeOK Tryz.prog 0 zN0c0 (nat_S2 qs o i p.length (p.flatten.map intP)) .normal (nat_S2 qs o (i + 1) r'301.length ((r'301.flatten.map intP).set ((i * 4) + 3) (intP x306))) := CodeOK.fin (g := ⟨(rng [(0, 3), (4, 4), (10, 5), (16, 93), (111, 47), (159, 1)]), [0], [], []⟩) (o := [.b true, .k 8 ⟨(rng [(0, 3), (4, 4), (10, 5), (16, 2), (19, 90), (116, 20), (159, 1)]), [0], [], []⟩ (.exit 7) (nat_S3 qs o i p j'300 r'301.length (r'301.flatten.map intP)), .x (intP y303), .b true, .x (intP y303), .x (intP x306)]) (l := [_, _, _, (qs.map intP)[((y303 - (1 : Int)).toNat * 1)]? = some (intP x306), 0 ≤ (y303 - (1 : Int)) ∧ (y303 - (1 : Int)) < (qs.length : Int) ∧ ((y303 - (1 : Int)).toNat * 1) < (qs.map intP).length, _, (r'301.flatten.map intP)[((i * 4) + 1)]? = some (intP y303), _, _, (r'301.flatten.map intP)[((i * 4) + 1)]? = some (intP y303), _, _, _]) (by kernel_rfl) (gc h9 (gc h8 (gc (ix_own (i := (i : Int)) (Int.natCast_nonneg _) h2) (gc (at_map (i := (y303 - (1 : Int)).toNat) h6) (gc (ix_map (i := (y303 - (1 : Int))) h7 h6) (gc h5 (gc (fl_field (i := i) (f := 1) h3 h2 rfl) (gc (ix_own (i := (i : Int)) (Int.natCast_nonneg _) h2) (gc (q_le h4) (gc (fl_field (i := i) (f := 1) h3 h2 rfl) (gc (ix_own (i := (i : Int)) (Int.natCast_nonneg _) h2) (gc hl1.code (gc (q_lt h0) gn)))))))))))))
  exact raw.cast (by rw [ep'n, ep'c])
theorem nat_L2_p1 {qs : List Int} {o : List (List Int)} {i : Nat} {p : List (List Int)} {j'300 : Nat} {r'301 : List (List Int)} {y302 y303 y304 y305 : Int} {i' : Nat} {p' : List (List Int)} (h0 : (i : Int) < (o.length : Int)) (hl1 : LoopOK Tryz.prog 0 zN0c1 (nat_S3 qs o i p 0 p.length (p.flatten.map intP)) (.exit 7) (nat_S3 qs o i p j'300 r'301.length (r'301.flatten.map intP))) (h2 : r'301[i]? = some [y302, y303, y304, y305]) (h3 : uni 4 r'301) (h4 : (qs.length : Int) < y303) (h5 : inR (((i + 1) : Nat) : Int)) (ei' : i' = (i + 1)) (ep'n : p'.length = r'301.length) (ep'c : p'.flatten.map intP = (r'301.flatten.map intP)) : CodeOK Tryz.prog 0 zN0c0 (nat_S2 qs o i p.length (p.flatten.map intP)) .normal (nat_S2 qs o i' p'.length (p'.flatten.map intP)) := by
  subst ei'
  have raw : CodeOK Tryz.prog 0 zN0c0 (nat_S2 qs o i p.length (p.flatten.map intP)) .normal (nat_S2 qs o (i + 1) r'301.length (r'301.flatten.map intP)) := CodeOK.fin (g := ⟨(rng [(0, 3), (4, 4), (10, 5), (16, 93), (111, 47), (159, 1)]), [0], [], []⟩) (o := [.b true, .k 8 ⟨(rng [(0, 3), (4, 4), (10, 5), (16, 2), (19, 90), (116, 20), (159, 1)]), [0], [], []⟩ (.exit 7) (nat_S3 qs o i p j'300 r'301.length (r'301.flatten.map intP)), .x (intP y303), .b false]) (l := [_, _, (r'301.flatten.map intP)[((i * 4) + 1)]? = some (intP y303), _, _, _]) (by kernel_rfl) (gc h5 (gc (q_leF h4) (gc (fl_field (i := i) (f := 1) h3 h2 rfl) (gc (ix_own (i := (i : Int)) (Int.natCast_nonneg _) h2) (gc hl1.code (gc (q_lt h0) gn))))))
  exact raw.cast (by rw [ep'n, ep'c])
theorem nat_L2_p2 {qs : List Int} {o : List (List Int)} {i : Nat} {p : List (List Int)} (h0 : (o.length : Int) ≤ (i : Int)) : CodeOK Tryz.prog 0 zN0c0 (nat_S2 qs o i p.length (p.flatten.map intP)) (.exit 5) (nat_S2 qs o i p.length (p.flatten.map intP)) := by
  exact CodeOK.fin (g := ⟨(rng [(0, 3), (4, 4), (10, 5), (16, 93), (111, 47), (159, 1)]), [0], [], []⟩) (o := [.b false]) (l := [_]) (by kernel_rfl) (gc (q_ltF h0) gn)
theorem nat_L3_p0 {qs : List Int} {o : List (List Int)} {i : Nat} {p : List (List Int)} {j : Nat} {r : List (List Int)} {y400 y401 y402 y403 y404 y405 y406 y407 : Int} {j' : Nat} {r' : List (List Int)} (h0 : (j : Int) < (p.length : Int)) (h1 : r[j]? = some [y400, y401, y402, y403]) (h2 : uni 4 r) (h3 : r[i]? = some [y404, y405, y406, y407]) (h4 : y406 < y402) (h5 : inR (y405 + (1 : Int))) (h6 : ((i * 4) + 1) < (r.flatten.map intP).length) (h7 : inR (((j + 1) : Nat) : Int)) (ej' : j' = (j + 1)) (er'n : r'.length = r.length) (er'c : r'.flatten.map intP = ((r.flatten.map intP).set ((i * 4) + 1) (intP (y405 + (1 : Int))))) : CodeOK Tryz.prog 0 zN0c1 (nat_S3 qs o i p j r.length (r.flatten.map intP)) .normal (nat_S3 qs o i p j' r'.length (r'.flatten.map intP)) := by
  subst ej'
  have raw : CodeOK Tryz.prog 0 zN0c1 (nat_S3 qs o i p j r.length (r.flatten.map intP)) .normal (nat_S3 qs o i p (j + 1) r.length ((r.flatten.map intP).set ((i * 4) + 1) (intP (y405 + (1 : Int))))) := CodeOK.fin (g := ⟨(rng [(0, 3), (4, 4), (10, 5), (16, 2), (19, 90), (116, 20), (159, 1)]), [0], [], []⟩) (o := [.b true, .x (.agg [(intP y400), (intP y401), (intP y402), (intP y403)]), .x (intP y406), .b true, .x (intP y405)]) (l := [_, _, _, _, (r.flatten.map intP)[((i * 4) + 1)]? = some (intP y405), _, _, (r.flatten.map intP)[((i * 4) + 2)]? = some (intP y406), _, some (.agg (((r.flatten.map intP).drop (j * 4)).take 4) : PV) = some (.agg [(intP y400), (intP y401), (intP y402), (intP y403)]), _, _, _]) (by kernel_rfl) (gc h7 (gc h6 (gc (ix_own (i := (i : Int)) (Int.natCast_nonneg _) h3) (gc h5 (gc (fl_field (i := i) (f := 1) h2 h3 rfl) (gc (ix_own (i := (i : Int)) (Int.natCast_nonneg _) h3) (gc (q_lt h4) (gc (fl_field (i := i) (f := 2) h2 h3 rfl) (gc (ix_own (i := (i : Int)) (Int.natCast_nonneg _) h3) (gc (fl_load (i := j) h2 h1) (gc (fl_le (i := j) h2 h1) (gc (ix_own (i := (j : Int)) (Int.natCast_nonneg _) h1) (gc (q_lt h0) gn)))))))))))))
  exact raw.cast (by rw [er'n, er'c])
theorem nat_L3_p1 {qs : List Int} {o : List (List Int)} {i : Nat} {p : List (List Int)} {j : Nat} {r : List (List Int)} {y400 y401 y402 y403 y404 y405 y406 y407 : Int} {j' : Nat} (h0 : (j : Int) < (p.length : Int)) (h1 : r[j]? = some [y400, y401, y402, y403]) (h2 : uni 4 r) (h3 : r[i]? = some [y404, y405, y406, y407]) (h4 : y402 ≤ y406) (h5 : inR (((j + 1) : Nat) : Int)) (ej' : j' = (j + 1)) : CodeOK Tryz.prog 0 zN0c1 (nat_S3 qs o i p j r.length (r.flatten.map intP)) .normal (nat_S3 qs o i p j' r.length (r.flatten.map intP)) := by
  subst ej'
  exact CodeOK.fin (g := ⟨(rng [(0, 3), (4, 4), (10, 5), (16, 2), (19, 90), (116, 20), (159, 1)]), [0], [], []⟩) (o := [.b true, .x (.agg [(intP y400), (intP y401), (intP y402), (intP y403)]), .x (intP y406), .b false]) (l := [_, _, (r.flatten.map intP)[((i * 4) + 2)]? = some (intP y406), _, some (.agg (((r.flatten.map intP).drop (j * 4)).take 4) : PV) = some (.agg [(intP y400), (intP y401), (intP y402), (intP y403)]), _, _, _]) (by kernel_rfl) (gc h5 (gc (q_ltF h4) (gc (fl_field (i := i) (f := 2) h2 h3 rfl) (gc (ix_own (i := (i : Int)) (Int.natCast_nonneg _) h3) (gc (fl_load (i := j) h2 h1) (gc (fl_le (i := j) h2 h1) (gc (ix_own (i := (j : Int)) (Int.natCast_nonneg _) h1) (gc (q_lt h0) gn))))))))
theorem nat_L3_p2 {qs : List Int} {o : List (List Int)} {i : Nat} {p : List (List Int)} {j : Nat} {r : List (List Int)} (h0 : (p.length : Int) ≤ (j : Int)) : CodeOK Tryz.prog 0 zN0c1 (nat_S3 qs o i p j r.length (r.flatten.map intP)) (.exit 7) (nat_S3 qs o i p j r.length (r.flatten.map intP)) := by
  exact CodeOK.fin (g := ⟨(rng [(0, 3), (4, 4), (10, 5), (16, 2), (19, 90), (116, 20), (159, 1)]), [0], [], []⟩) (o := [.b false]) (l := [_]) (by kernel_rfl) (gc (q_ltF h0) gn)
end
section
variable {P : Program} {C C0 : Cx} {M M0 : Mem} {w w0 : World}

theorem lt_of_some {w : World} {b : Nat} {o : Obj} (h : w.heap[b]? = some o) : b < w.heap.size := (Array.getElem?_eq_some_iff.1 h).1

theorem mem_beside (hM : MemOK P C M w) {w' : World} (hsz : w.heap.size ≤ w'.heap.size) (hF : ∀ b, C.F b → w'.heap[b]? = w.heap[b]?) (hL : ∀ (id : Nat) (o : AO) (b : Nat), M[id]? = some (some o) → o.live = true → C.ι id = some b → w'.heap[b]? = w.heap[b]?) :
    MemOK P C M w' ∧ Le C C M M w w' := by
  have hle : Le C C M M w w' := ⟨fun _ o h => ⟨o, h⟩, fun _ _ _ _ _ cs h => ⟨cs, h⟩, fun _ o h o' h' hl => by rw [h] at h'; cases h'; exact ⟨hl, rfl, rfl⟩, fun _ h => h, hF⟩
  refine ⟨⟨fun i ty' n cs hm => ?_, fun i ty' cs hm => ?_, fun i es cl hm => ?_, hM.inj, hM.nF, fun b hb => Nat.lt_of_lt_of_le (hM.Fs b hb) hsz, fun i x b hm hl hb => Nat.lt_of_lt_of_le (hM.lt i x b hm hl hb) hsz⟩, hle⟩
  · rcases hM.row _ _ _ _ hm with h4 | ⟨b, arr, inf, q0, q1, q2, q3, q4, q5, q6, q7, q8⟩
    · exact .inl h4
    · exact .inr ⟨b, arr, inf, q0, by rw [hL _ _ _ hm rfl q0]; exact q1, q2, q3, q4, q5, q6, fun j hj => (q7 j hj).mono hle.F hle.fz, q8⟩
  · obtain ⟨b, arr, q0, q1, q2, q3, q4⟩ := hM.box _ _ _ hm
    exact ⟨b, arr, q0, by rw [hL _ _ _ hm rfl q0]; exact q1, q2, fun j hj => (q3 j hj).mono hle, q4⟩
  · obtain ⟨b, arr, q0, q1, q2, q3⟩ := hM.mp _ _ _ hm
    refine ⟨b, arr, q0, by rw [hL _ _ _ hm rfl q0]; exact q1, q2, fun j hj => ?_⟩
    obtain ⟨en, r1, r2, r3, r4⟩ := q3 j hj
    exact ⟨en, r1, r2, r3, r4.mono hle⟩

theorem Sim.beside {R R' : List (Nat × Obj)} {st : St} {a : Act} {w' : World} (h : Sim P (C0.with R) M0 w0 st a w) (X : Nat → Prop) (hX : ∀ b, X b → ∃ o, (b, o) ∈ R) (h1 : w'.os = w.os) (h2 : w'.tape = w.tape) (h3 : w'.output = w.output)
    (hsz : w.heap.size ≤ w'.heap.size) (hk : ∀ b, b < w.heap.size → ¬ X b → w'.heap[b]? = w.heap[b]?)
    (hR' : ∀ p ∈ R', (p ∈ R ∧ ¬ X p.1) ∨ (w'.heap[p.1]? = some p.2 ∧ p.2 ≠ .deferred (some []) ∧ (w.heap.size ≤ p.1 ∨ ∃ o, (p.1, o) ∈ R))) : Sim P (C0.with R') M0 w0 st a w' := by
  obtain ⟨C, hS, hM, hF, ⟨l, m1, m2, m3⟩, hR⟩ := h
  have hXR : ∀ b, X b → ∃ o, w.heap[b]? = some o ∧ w0.heap.size ≤ b ∧ o ≠ .deferred (some []) ∧ ¬ C.F b ∧ ∀ (id : Nat) (o : AO), st.m[id]? = some (some o) → o.live = true → C.ι id ≠ some b := fun b hb => by
    obtain ⟨o, ho⟩ := hX b hb
    exact ⟨o, hR _ ho⟩
  have hFz : ∀ b, C.F b → w'.heap[b]? = w.heap[b]? := fun b hb => hk b (hM.Fs b hb) (fun hx => by obtain ⟨_, _, _, _, q, _⟩ := hXR b hx; exact q hb)
  have hLv : ∀ (id : Nat) (o : AO) (b : Nat), st.m[id]? = some (some o) → o.live = true → C.ι id = some b → w'.heap[b]? = w.heap[b]? := fun id o b ho hl hb => hk b (hM.lt _ _ _ ho hl hb) (fun hx => by obtain ⟨_, _, _, _, _, q⟩ := hXR b hx; exact q id o ho hl hb)
  obtain ⟨hM', hle⟩ := mem_beside hM hsz hFz hLv
  refine ⟨C, hS.le hle, hM', ⟨h1.trans hF.os, h2.trans hF.tape, h3.trans hF.out, Nat.le_trans hF.size hsz, fun b hb hn => (hk b (Nat.lt_of_lt_of_le hb hF.size) (fun hx => by obtain ⟨_, _, q, _⟩ := hXR b hx; omega)).trans (hF.keep b hb hn), hF.ids, hF.row, hF.liv, hF.new, hF.F1, hF.F2⟩, ⟨l, m1, m2, fun D hD => ?_⟩, fun p hp => ?_⟩
  · obtain ⟨q1, q2, q3⟩ := m3 D hD
    refine ⟨(hk D (lt_of_some q1) (fun hx => ?_)).trans q1, q2, q3⟩
    obtain ⟨o, r1, _, r3, _⟩ := hXR D hx
    rw [q1] at r1; cases r1; exact r3 rfl
  · rcases hR' p hp with ⟨hin, hx⟩ | ⟨r1, r2, r3⟩
    · obtain ⟨q1, q2, q3, q4, q5⟩ := hR p hin
      exact ⟨(hk _ (lt_of_some q1) hx).trans q1, q2, q3, q4, q5⟩
    · rcases r3 with r3 | ⟨o, ho⟩
      · refine ⟨r1, Nat.le_trans hF.size r3, r2, fun hf => ?_, fun id o ho hl hb => ?_⟩
        · have := hM.Fs _ hf; omega
        · have := hM.lt _ _ _ ho hl hb; omega
      · obtain ⟨q1, q2, q3, q4, q5⟩ := hR _ ho
        exact ⟨r1, q2, r2, q4, q5⟩

theorem Sim.less {R R' : List (Nat × Obj)} {st : St} {a : Act} (h : Sim P (C0.with R) M0 w0 st a w) (hR : ∀ p ∈ R', p ∈ R) : Sim P (C0.with R') M0 w0 st a w :=
  h.beside (fun _ => False) (fun _ h => h.elim) rfl rfl rfl (Nat.le_refl _) (fun _ _ _ => rfl) (fun p hp => .inl ⟨hR p hp, id⟩)

theorem Sim.has {R : List (Nat × Obj)} {st : St} {a : Act} (h : Sim P (C0.with R) M0 w0 st a w) : ∀ p ∈ R, w.heap[p.1]? = some p.2 := fun p hp => by
  obtain ⟨C, _, _, _, _, hR⟩ := h
  exact (hR p hp).1

theorem Sim.put {st : St} {a : Act} (h : Sim P C0 M0 w0 st a w) (d : Option Tmp) {x : AV} {u : Value} (hx : ∀ (C : Cx) (M : Mem), Rep C M w x u) : Sim P C0 M0 w0 ⟨KV.put st.t d x, st.m⟩ (a.put d u) w := by
  obtain ⟨C, hS, hM, hF, hD⟩ := h
  refine ⟨C, hS.put (hx _ _), hM, hF, ?_⟩
  have : (a.put d u).defers = a.defers := by unfold Act.put; split <;> rfl
  rw [this]
  exact hD

theorem Sim.hand {R : List (Nat × Obj)} {st : St} {a : Act} {b ty n cap k d : Nat} {cs : List PV} {arr : Array Value} {i : TypeInfo} (h : Sim P (C0.with ((b, .cells arr ty (0, 0)) :: R)) M0 w0 st a w) (hb : ∀ p ∈ R, p.1 ≠ b)
    (hk : M0.length ≤ k) (hf : Free st.m k) (hd : a.tmps.getD d undef = .slice (some ⟨b, 0, none⟩) n cap) (hi : P.info? ty = some i) (harr : arr.size = cap * i.size) (hcs : cs.length = n * i.size) (hn : n ≤ cap) (hc : cap ≤ maxLen)
    (hrep : ∀ (F : Nat → Prop) j (h : j < cs.length), RepP F w cs[j] (arr.getD j undef)) (h1 : ∀ j, j < cs.length → (arr.getD j undef).oneCell' = true) : Sim P (C0.with R) M0 w0 ⟨st.t.set d (.own k), setAt st.m k (some (.row ty n cs))⟩ a w := by
  obtain ⟨C, hS, hM, hF, hm, hR⟩ := h
  obtain ⟨q1, q2, q3, q4, q5⟩ := hR _ (List.mem_cons_self ..)
  dsimp only at q1 q2 q4 q5
  have hne : ∀ (j : Nat) (o' : AO), st.m[j]? = some (some o') → j ≠ k := fun j o' h e => hf o' (e ▸ h)
  have hold : ∀ (j : Nat) (o' : AO), j ≠ k → (setAt st.m k (some (.row ty n cs)))[j]? = some (some o') → st.m[j]? = some (some o') := fun j o' h => (setAt_other st.m k j _ o' (fun e => h e.symm)).1
  have hfw : ∀ (j : Nat) (o' : AO), st.m[j]? = some (some o') → (setAt st.m k (some (.row ty n cs)))[j]? = some (some o') := fun j o' h => (setAt_other st.m k j _ o' (fun e => hne j o' h e.symm)).2 h
  have hι : ∀ j, j ≠ k → (C.grow k b cap).ι j = C.ι j := fun j h => by simp [Cx.grow, h]
  have hκ : ∀ j, j ≠ k → (C.grow k b cap).κ j = C.κ j := fun j h => by simp [Cx.grow, h]
  have hιs : (C.grow k b cap).ι k = some b := by simp [Cx.grow]
  have hκs : (C.grow k b cap).κ k = cap := by simp [Cx.grow]
  have hle : Le C (C.grow k b cap) st.m (setAt st.m k (some (.row ty n cs))) w w := by
    refine ⟨fun j o h => ⟨o, hfw j o h⟩, fun j o h ty' n' cs' hm => ⟨cs', hold j _ (hne j o h) hm⟩, fun j o h o' hm hl => ?_, fun _ h => h, fun _ _ => rfl⟩
    have := hold j _ (hne j o h) hm
    rw [h] at this; cases this
    exact ⟨hl, hι j (hne j o h), hκ j (hne j o h)⟩
  have hnew : ∀ (o' : AO), (setAt st.m k (some (.row ty n cs)))[k]? = some (some o') → o' = .row ty n cs := fun o' h => by rw [setAt_same] at h; cases h; rfl
  refine ⟨C.grow k b cap, ⟨by simpa using hS.size, fun j hj => ?_⟩, ⟨fun j ty' n' cs' hm => ?_, fun j ty' cs' hm => ?_, fun j es cl hm => ?_, fun j j' o1 o2 b' hm hl hm' hl' hb1 hb2 => ?_, fun j o' b' hm hl hb' => ?_, hM.Fs, fun j o' b' hm hl hb' => ?_⟩,
    ⟨hF.os, hF.tape, hF.out, hF.size, hF.keep, fun j o h => ?_, fun j o h ty' n' cs' hm => ?_, fun j o h o' hm hl => ?_, fun j o b' hm hl hb' => ?_, hF.F1, hF.F2⟩, hm, fun p hp => ?_⟩
  · simp only [List.length_set] at hj
    rw [List.getElem_set]
    split
    · rename_i e
      subst e
      rw [hd]
      exact .own k _ rfl ⟨_, setAt_same _ _ _⟩ (fun ty' n' cs' hm => by cases hnew _ hm; exact .inr ⟨b, by rw [hκs], hιs⟩)
    · exact (hS.rep j hj).mono hle
  · by_cases e : j = k
    · subst e
      cases hnew _ hm
      exact .inr ⟨b, arr, i, hιs, q1, hi, by rw [hκs]; exact harr, hcs, by rw [hκs]; exact hn, by rw [hκs]; exact hc, fun j hj => hrep _ j hj, h1⟩
    · rw [hι j e, hκ j e]
      rcases hM.row _ _ _ _ (hold j _ e hm) with h4 | ⟨b, arr, inf, q0, q1, q2, q3, q4, q5, q6, q7, q8⟩
      · exact .inl h4
      · exact .inr ⟨b, arr, inf, q0, q1, q2, q3, q4, q5, q6, fun j hj => (q7 j hj).mono hle.F hle.fz, q8⟩
  · by_cases e : j = k
    · subst e; cases hnew _ hm
    · rw [hι j e]
      obtain ⟨b, arr, q0, q1, q2, q3, q4⟩ := hM.box _ _ _ (hold j _ e hm)
      exact ⟨b, arr, q0, q1, q2, fun j hj => (q3 j hj).mono hle, q4⟩
  · by_cases e : j = k
    · subst e; cases hnew _ hm
    · rw [hι j e]
      obtain ⟨b, arr, q0, q1, q2, q3⟩ := hM.mp _ _ _ (hold j _ e hm)
      refine ⟨b, arr, q0, q1, q2, fun j hj => ?_⟩
      obtain ⟨en, r1, r2, r3, r4⟩ := q3 j hj
      exact ⟨en, r1, r2, r3, r4.mono hle⟩
  · by_cases e : j = k
    · by_cases e' : j' = k
      · rw [e, e']
      · subst e
        rw [hιs] at hb1; cases hb1
        rw [hι j' e'] at hb2
        exact absurd hb2 (q5 _ _ (hold j' _ e' hm') hl')
    · by_cases e' : j' = k
      · subst e'
        rw [hιs] at hb2; cases hb2
        rw [hι j e] at hb1
        exact absurd hb1 (q5 _ _ (hold j _ e hm) hl)
      · rw [hι j e] at hb1; rw [hι j' e'] at hb2
        exact hM.inj _ _ _ _ _ (hold j _ e hm) hl (hold j' _ e' hm') hl' hb1 hb2
  · by_cases e : j = k
    · subst e
      rw [hιs] at hb'; cases hb'
      exact q4
    · rw [hι j e] at hb'
      exact hM.nF _ _ _ (hold j _ e hm) hl hb'
  · by_cases e : j = k
    · subst e
      rw [hιs] at hb'; cases hb'
      exact lt_of_some q1
    · rw [hι j e] at hb'
      exact hM.lt _ _ _ (hold j _ e hm) hl hb'
  · have hj : j ≠ k := by have := (List.getElem?_eq_some_iff.1 h).1; omega
    obtain ⟨⟨o', r1⟩, r2, r3⟩ := hF.ids j o h
    exact ⟨⟨o', hfw j o' r1⟩, by rw [hι j hj]; exact r2, by rw [hκ j hj]; exact r3⟩
  · have hj : j ≠ k := by have := (List.getElem?_eq_some_iff.1 h).1; omega
    exact hF.row j o h _ _ _ (hold j _ hj hm)
  · have hj : j ≠ k := by have := (List.getElem?_eq_some_iff.1 h).1; omega
    exact hF.liv j o h o' (hold j _ hj hm) hl
  · by_cases e : j = k
    · subst e
      rw [hιs] at hb'; cases hb'
      exact .inl q2
    · rw [hι j e] at hb'
      exact hF.new j o b' (hold j _ e hm) hl hb'
  · obtain ⟨r1, r2, r3, r4, r5⟩ := hR p (List.mem_cons_of_mem _ hp)
    refine ⟨r1, r2, r3, r4, fun j o ho hl hb' => ?_⟩
    by_cases e : j = k
    · subst e
      rw [hιs] at hb'
      exact hb p hp (Option.some.inj hb').symm
    · rw [hι j e] at hb'
      exact r5 j o (hold j _ e ho) hl hb'
end
end KV
end Go.Proofs
