/- JuryDue returns true at every input; what came in reads as it did. No condition. -/
import Derived.Test.YtcfoklnaehgmmaaGreatRows
import Derived.Test.YtcfoklnaehgmmaaGreatPJDueE
namespace Go.Proofs.YtcfoklnaehgmmaaGreat
open Go.ChangeShapes Go.WideShapes Go.ChangeAt Go.RowKit
open Go.Proofs.KV

theorem ownKnobT : ownKnob Tryz.prog.godebug = none := by kernel_rfl
theorem laidOutT : laidOutB Tryz.prog = true := by kernel_rfl
theorem cells3T : Tryz.prog.cellsOf 3 = 1 := by kernel_rfl
theorem cells5T : Tryz.prog.cellsOf 5 = 1 := by kernel_rfl

set_option maxRecDepth 100000 in
theorem due_lifted (os : Os) (started : os.Started) (H : Type) (enc : TypeId × Value → H) :
    ReturnsInHanded {} Tryz.checked os 5 .any (Rows.juryDueSpec.pre6 enc Tryz.prog Tryz.f5 Rows.juryDueRow.domain false) (Rows.juryDueSpec.post enc Tryz.prog Tryz.f5 false true false false) := by
  refine returnsInHanded_of_change (C := Tryz.checked) ownKnobT started (by kernel_rfl) Tryz.func5
    (ChangeSpec.witness6 (enc := enc) (C := Tryz.checked) false ⟨#[], #[.slice none 0 0, .slice none 0 0], []⟩ 8 (by kernel_rfl) (by kernel_rfl) (by kernel_rfl) (by kernel_rfl)) ?_
  intro W base args ds gs before hval0 hW _ _
  have hval : ∀ (j : Nat) t v, Tryz.f5.params[j]? = some t → args[j]? = some v → Value.okWide Tryz.prog W .any base t v := hval0
  have hW' := hW
  obtain ⟨p, q, hA0, hV, rfl, _, _⟩ := hW
  have hA : DataW.TrodAll enc Tryz.prog W 0 (fun _ => true) true Tryz.f5.params.toList args.toList ds p := hA0
  have hA2 := hA
  rw [Tryz.params5] at hA hval
  obtain ⟨v0, v1, d0, d1, p0, p1, rfl, rfl, rfl, h0, h1⟩ := trodAll_two hA
  obtain ⟨rfl, rfl⟩ := trodVars_none hV
  clear hA0 hval0
  simp only [List.append_nil] at hW' hA2
  obtain ⟨l0, hl0, hlw0, hll0⟩ := aDu Tryz.underlying22 Tryz.underlying5 cells5T (hval 0 _ v0 rfl rfl) h0
  obtain ⟨l1, hl1, hlw1, hll1⟩ := aDu Tryz.underlying22 Tryz.underlying5 cells5T (hval 1 _ v1 rfl rfl) h1
  refine (FV.law (args := [.p (.sl l0.length (l0.map cU)), .p (.sl l1.length (l1.map cU))]) (us := [v0, v1]) (fun base => bXf l0 l1) rfl (.cons _ _ _ _ (.p _ _ hl0) (.cons _ _ _ _ (.p _ _ hl1) .nil))).mono fun e W' ⟨he, hbw⟩ => ?_
  subst he
  exact ⟨_, rfl, ⟨_, _, _, [], _, [], hW', trodAll_mk1 (shut_bool Tryz.underlying4 _), sK laidOutT hbw (by kernel_rfl) hA2 (fun x hx => by simpa using hW'.lt x hx), rfl, hbw.frame _, fun h => by cases h⟩⟩

theorem dueName : Tryz.checked.prog.funcNamed Rows.juryDueRow.func = some 5 := by kernel_rfl
theorem Sl : (Rows.juryDueRow.wf (OpenSpec.ofChange Rows.juryDueSpec)) = true := by kernel_rfl
theorem sC2 : laidOutB Tryz.checked.prog = true := laidOutT
theorem sC3 : mapsRowed Tryz.checked.prog = true := by kernel_rfl
theorem sC4 : (Rows.juryDueRow.inPlace == Tryz.checked.prog.inPlace 5) = true := by kernel_rfl
theorem sC5 : (Rows.juryDueRow.unfollowed == Tryz.checked.prog.unfollowed 5) = true := by kernel_rfl
theorem sC6 : (Rows.juryDueRow.recurses == Tryz.checked.prog.recurses 5) = true := by kernel_rfl
theorem sC7 : (Rows.juryDueRow.named == Tryz.checked.prog.varsNamed 5) = true := by kernel_rfl
/-- in parts, so that each needs less room -/
theorem dueClosed : joinedFacts Tryz.checked.prog 5 Tryz.f5 Rows.juryDueSpec Rows.juryDueRow = true := by
  unfold joinedFacts
  rw [Sl, sC2, sC3, sC4, sC5, sC6, sC7]
  kernel_rfl

theorem juryDue_holds : Rows.JuryDueSaid :=
  OpenClaim.holds_of_wide 5 Tryz.f5 rfl rfl rfl rfl rfl rfl rfl ⟨rfl, rfl, rfl, rfl, rfl⟩ rfl rfl rfl rfl rfl dueName Tryz.func5 dueClosed
    (of_decide_eq_true (by kernel_rfl)) (by unfold Func.isWrapper; first | (rw [if_pos (by decide +kernel)]; kernel_rfl) | (rw [if_neg (by decide +kernel)]; exact ⟨rfl, rfl⟩))
    (fun os started H enc _ => due_lifted os started H enc)
#print axioms juryDue_holds
end Go.Proofs.YtcfoklnaehgmmaaGreat
