/- TopContested returns true at every input; what came in reads as it did. No condition. -/
import Derived.Test.YtaghkcgipomdjaaGreatRows
import Derived.Test.YtaghkcgipomdjaaGreatPJTopContestedF
namespace Go.Proofs.YtaghkcgipomdjaaGreat
open Go.ChangeShapes Go.WideShapes Go.ChangeAt Go.RowKit
open Go.Proofs.KV

theorem ownKnobT : ownKnob Tryz.prog.godebug = none := by kernel_rfl
theorem laidOutT : laidOutB Tryz.prog = true := by kernel_rfl
theorem cells3T : Tryz.prog.cellsOf 3 = 1 := by kernel_rfl
theorem cells5T : Tryz.prog.cellsOf 5 = 1 := by kernel_rfl

set_option maxRecDepth 100000 in
theorem contested_lifted (os : Os) (started : os.Started) (H : Type) (enc : TypeId × Value → H) :
    ReturnsInHanded {} Tryz.checked os 3 .any (Rows.topContestedSpec.pre6 enc Tryz.prog Tryz.f3 Rows.topContestedRow.domain false) (Rows.topContestedSpec.post enc Tryz.prog Tryz.f3 false true false false) := by
  refine returnsInHanded_of_change (C := Tryz.checked) ownKnobT started (by kernel_rfl) Tryz.func3
    (ChangeSpec.witness6 (enc := enc) (C := Tryz.checked) false ⟨#[], #[.slice none 0 0, .slice none 0 0, .slice none 0 0], []⟩ 8 (by kernel_rfl) (by kernel_rfl) (by kernel_rfl) (by kernel_rfl)) ?_
  intro W base args ds gs before hval0 hW _ _
  have hval : ∀ (j : Nat) t v, Tryz.f3.params[j]? = some t → args[j]? = some v → Value.okWide Tryz.prog W .any base t v := hval0
  have hW' := hW
  obtain ⟨p, q, hA0, hV, rfl, _, _⟩ := hW
  have hA : DataW.TrodAll enc Tryz.prog W 0 (fun _ => true) true Tryz.f3.params.toList args.toList ds p := hA0
  have hA2 := hA
  rw [Tryz.params3] at hA hval
  obtain ⟨v0, v1, v2, d0, d1, d2, p0, p1, p2, rfl, rfl, rfl, h0, h1, h2⟩ := trodAll_three hA
  obtain ⟨rfl, rfl⟩ := trodVars_none hV
  clear hA0 hval0
  simp only [List.append_nil] at hW' hA2
  obtain ⟨l0, hl0, hlw0, hll0⟩ := zC Tryz.underlying22 Tryz.underlying5 cells5T (hval 0 _ v0 rfl rfl) h0
  obtain ⟨l1, hl1, hlw1, hll1⟩ := zC Tryz.underlying22 Tryz.underlying5 cells5T (hval 1 _ v1 rfl rfl) h1
  obtain ⟨l2, hl2, hlw2, hll2⟩ := zC Tryz.underlying22 Tryz.underlying5 cells5T (hval 2 _ v2 rfl rfl) h2
  refine (FV.law (args := [.p (.sl l0.length (l0.map bW)), .p (.sl l1.length (l1.map bW)), .p (.sl l2.length (l2.map bW))]) (us := [v0, v1, v2]) (fun base => cMc (base := base) l0 l1 l2) rfl (.cons _ _ _ _ (.p _ _ hl0) (.cons _ _ _ _ (.p _ _ hl1) (.cons _ _ _ _ (.p _ _ hl2) .nil)))).mono fun e W' ⟨he, hbw⟩ => ?_
  subst he
  exact ⟨_, rfl, ⟨_, _, _, [], _, [], hW', trodAll_mk1 (shut_bool Tryz.underlying4 _), uZ laidOutT hbw (by kernel_rfl) hA2 (fun x hx => by simpa using hW'.lt x hx), rfl, hbw.frame _, fun h => by cases h⟩⟩

theorem contestedName : Tryz.checked.prog.funcNamed Rows.topContestedRow.func = some 3 := by kernel_rfl
theorem Uw : (Rows.topContestedRow.wf (OpenSpec.ofChange Rows.topContestedSpec)) = true := by kernel_rfl
theorem sC2 : laidOutB Tryz.checked.prog = true := laidOutT
theorem sC3 : mapsRowed Tryz.checked.prog = true := by kernel_rfl
theorem sC4 : (Rows.topContestedRow.inPlace == Tryz.checked.prog.inPlace 3) = true := by kernel_rfl
theorem sC5 : (Rows.topContestedRow.unfollowed == Tryz.checked.prog.unfollowed 3) = true := by kernel_rfl
theorem sC6 : (Rows.topContestedRow.recurses == Tryz.checked.prog.recurses 3) = true := by kernel_rfl
theorem sC7 : (Rows.topContestedRow.named == Tryz.checked.prog.varsNamed 3) = true := by kernel_rfl
/-- in parts, so that each needs less room -/
theorem contestedClosed : joinedFacts Tryz.checked.prog 3 Tryz.f3 Rows.topContestedSpec Rows.topContestedRow = true := by
  unfold joinedFacts
  rw [Uw, sC2, sC3, sC4, sC5, sC6, sC7]
  kernel_rfl

theorem topContested_holds : Rows.TopContestedSaid :=
  OpenClaim.holds_of_wide 3 Tryz.f3 rfl rfl rfl rfl rfl rfl rfl ⟨rfl, rfl, rfl, rfl, rfl⟩ rfl rfl rfl rfl rfl contestedName Tryz.func3 contestedClosed
    (of_decide_eq_true (by kernel_rfl)) (by unfold Func.isWrapper; first | (rw [if_pos (by decide +kernel)]; kernel_rfl) | (rw [if_neg (by decide +kernel)]; exact ⟨rfl, rfl⟩))
    (fun os started H enc _ => contested_lifted os started H enc)
#print axioms topContested_holds
end Go.Proofs.YtaghkcgipomdjaaGreat
