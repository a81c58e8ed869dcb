/- JuryPursued returns true at every input; what came in reads as it did. No condition. -/
import Derived.Test.YtaghkcgipomdjaaGreatRows
import Derived.Test.YtaghkcgipomdjaaGreatPJPursuedE
namespace Go.Proofs.YtaghkcgipomdjaaGreat
open Go.ChangeShapes Go.WideShapes Go.ChangeAt Go.RowKit
open Go.Proofs.KV

theorem ownKnobT : ownKnob Tryz.prog.godebug = none := by kernel_rfl
theorem laidOutT : laidOutB Tryz.prog = true := by kernel_rfl
theorem cells3T : Tryz.prog.cellsOf 3 = 1 := by kernel_rfl
theorem cells5T : Tryz.prog.cellsOf 5 = 1 := by kernel_rfl

set_option maxRecDepth 100000 in
theorem pursued_lifted (os : Os) (started : os.Started) (H : Type) (enc : TypeId × Value → H) :
    ReturnsInHanded {} Tryz.checked os 4 .any (Rows.juryPursuedSpec.pre6 enc Tryz.prog Tryz.f4 Rows.juryPursuedRow.domain false) (Rows.juryPursuedSpec.post enc Tryz.prog Tryz.f4 false true false false) := by
  refine returnsInHanded_of_change (C := Tryz.checked) ownKnobT started (by kernel_rfl) Tryz.func4
    (ChangeSpec.witness6 (enc := enc) (C := Tryz.checked) false ⟨#[], #[.slice none 0 0, .int .u8 0], []⟩ 8 (by kernel_rfl) (by kernel_rfl) (by kernel_rfl) (by kernel_rfl)) ?_
  intro W base args ds gs before hval0 hW _ _
  have hval : ∀ (j : Nat) t v, Tryz.f4.params[j]? = some t → args[j]? = some v → Value.okWide Tryz.prog W .any base t v := hval0
  have hW' := hW
  obtain ⟨p, q, hA0, hV, rfl, _, _⟩ := hW
  have hA : DataW.TrodAll enc Tryz.prog W 0 (fun _ => true) true Tryz.f4.params.toList args.toList ds p := hA0
  have hA2 := hA
  rw [Tryz.params4] at hA hval
  obtain ⟨v0, v1, d0, d1, p0, p1, rfl, rfl, rfl, h0, h1⟩ := trodAll_two hA
  obtain ⟨rfl, rfl⟩ := trodVars_none hV
  clear hA0 hval0
  simp only [List.append_nil] at hW' hA2
  obtain ⟨l0, hl0, hlw0, hll0⟩ := aTk Tryz.underlying22 Tryz.underlying5 cells5T (hval 0 _ v0 rfl rfl) h0
  obtain ⟨b1, rfl, rfl, rfl, wb1⟩ := open_int Tryz.underlying5 (hval 1 5 v1 rfl rfl) h1
  have Ci : 0 ≤ b1 ∧ b1 ≤ 255 := by
    have e1 : IntKind.u8.min = 0 := rfl
    have e2 : IntKind.u8.max = 255 := rfl
    simpa [Lit.wf, e1, e2] using wb1
  refine (FV.law (args := [.p (.sl l0.length (l0.map cG)), .p (.v (.int .u8 b1))]) (us := [v0, .int .u8 b1]) (fun base => bNp (base := base) bGr l0 b1 Ci) rfl (.cons _ _ _ _ (.p _ _ hl0) (.cons _ _ _ _ (.p _ _ (.v _)) .nil))).mono fun e W' ⟨he, hbw⟩ => ?_
  subst he
  exact ⟨_, rfl, ⟨_, _, _, [], _, [], hW', trodAll_mk1 (shut_bool Tryz.underlying4 _), sI laidOutT hbw (by kernel_rfl) hA2 (fun x hx => by simpa using hW'.lt x hx), rfl, hbw.frame _, fun h => by cases h⟩⟩

theorem pursuedName : Tryz.checked.prog.funcNamed Rows.juryPursuedRow.func = some 4 := by kernel_rfl
theorem Rk : (Rows.juryPursuedRow.wf (OpenSpec.ofChange Rows.juryPursuedSpec)) = true := by kernel_rfl
theorem sC2 : laidOutB Tryz.checked.prog = true := laidOutT
theorem sC3 : mapsRowed Tryz.checked.prog = true := by kernel_rfl
theorem sC4 : (Rows.juryPursuedRow.inPlace == Tryz.checked.prog.inPlace 4) = true := by kernel_rfl
theorem sC5 : (Rows.juryPursuedRow.unfollowed == Tryz.checked.prog.unfollowed 4) = true := by kernel_rfl
theorem sC6 : (Rows.juryPursuedRow.recurses == Tryz.checked.prog.recurses 4) = true := by kernel_rfl
theorem sC7 : (Rows.juryPursuedRow.named == Tryz.checked.prog.varsNamed 4) = true := by kernel_rfl
/-- in parts, so that each needs less room -/
theorem pursuedClosed : joinedFacts Tryz.checked.prog 4 Tryz.f4 Rows.juryPursuedSpec Rows.juryPursuedRow = true := by
  unfold joinedFacts
  rw [Rk, sC2, sC3, sC4, sC5, sC6, sC7]
  kernel_rfl

theorem juryPursued_holds : Rows.JuryPursuedSaid :=
  OpenClaim.holds_of_wide 4 Tryz.f4 rfl rfl rfl rfl rfl rfl rfl ⟨rfl, rfl, rfl, rfl, rfl⟩ rfl rfl rfl rfl rfl pursuedName Tryz.func4 pursuedClosed
    (of_decide_eq_true (by kernel_rfl)) (by unfold Func.isWrapper; first | (rw [if_pos (by decide +kernel)]; kernel_rfl) | (rw [if_neg (by decide +kernel)]; exact ⟨rfl, rfl⟩))
    (fun os started H enc _ => pursued_lifted os started H enc)
#print axioms juryPursued_holds
end Go.Proofs.YtaghkcgipomdjaaGreat
