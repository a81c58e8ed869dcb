/- CupLasts returns true at every input; what came in reads as it did. No condition. -/
import Derived.Test.YtgehgmllhmfbpaaGreatRows
import Derived.Test.YtgehgmllhmfbpaaGreatPJLastsE
namespace Go.Proofs.YtgehgmllhmfbpaaGreat
open Go.ChangeShapes Go.WideShapes Go.ChangeAt Go.RowKit
open Go.Proofs.KV

theorem ownKnobT : ownKnob Tryz.prog.godebug = none := by kernel_rfl
theorem laidOutT : laidOutB Tryz.prog = true := by kernel_rfl
theorem cells3T : Tryz.prog.cellsOf 3 = 1 := by kernel_rfl
theorem cells22T : Tryz.prog.cellsOf 22 = 1 := by kernel_rfl
theorem cells23T : Tryz.prog.cellsOf 23 = 1 := by kernel_rfl
theorem cells25T : Tryz.prog.cellsOf 25 = 5 := by kernel_rfl

set_option maxRecDepth 100000 in
theorem lasts_lifted (os : Os) (started : os.Started) (H : Type) (enc : TypeId × Value → H) :
    ReturnsInHanded {} Tryz.checked os 10 .any (Rows.cupLastsSpec.pre6 enc Tryz.prog Tryz.f10 Rows.cupLastsRow.domain false) (Rows.cupLastsSpec.post enc Tryz.prog Tryz.f10 false true false false) := by
  refine returnsInHanded_of_change (C := Tryz.checked) ownKnobT started (by kernel_rfl) Tryz.func10
    (ChangeSpec.witness6 (enc := enc) (C := Tryz.checked) false ⟨#[], #[.agg #[.int .i64 0, .int .i64 0, .int .i64 0, .slice none 0 0, .slice none 0 0], .int .i64 0, .int .i64 0], []⟩ 8 (by kernel_rfl) (by kernel_rfl) (by kernel_rfl) (by kernel_rfl)) ?_
  intro W base args ds gs before hval0 hW _ _
  have hval : ∀ (j : Nat) t v, Tryz.f10.params[j]? = some t → args[j]? = some v → Value.okWide Tryz.prog W .any base t v := hval0
  have hW' := hW
  obtain ⟨p, q, hA0, hV, rfl, _, _⟩ := hW
  have hA : DataW.TrodAll enc Tryz.prog W 0 (fun _ => true) true Tryz.f10.params.toList args.toList ds p := hA0
  have hA2 := hA
  rw [Tryz.params10] at hA hval
  obtain ⟨v0, v1, v2, d0, d1, d2, p0, p1, p2, rfl, rfl, rfl, h0, h1, h2⟩ := trodAll_three hA
  obtain ⟨rfl, rfl⟩ := trodVars_none hV
  clear hA0 hval0
  simp only [List.append_nil] at hW' hA2
  obtain ⟨l0, hl0⟩ := read_cup Tryz.underlying25 Tryz.underlying3 Tryz.underlying22 Tryz.underlying23 cells3T cells22T cells23T cells25T rfl rfl rfl rfl rfl rfl rfl rfl rfl rfl (hval 0 _ v0 rfl rfl) h0
  obtain ⟨b1, rfl, rfl, rfl, wb1⟩ := open_int Tryz.underlying3 (hval 1 3 v1 rfl rfl) h1
  obtain ⟨b2, rfl, rfl, rfl, wb2⟩ := open_int Tryz.underlying3 (hval 2 3 v2 rfl rfl) h2
  refine (FV.law (args := [.p (cupP l0), .p (intP b1), .p (intP b2)]) (us := [v0, .int .i64 b1, .int .i64 b2]) (fun base => lasts_law l0 b1 b2) rfl (.cons _ _ _ _ (.p _ _ hl0) (.cons _ _ _ _ (.p _ _ (.v _)) (.cons _ _ _ _ (.p _ _ (.v _)) .nil)))).mono fun e W' ⟨he, hbw⟩ => ?_
  subst he
  exact ⟨_, rfl, ⟨_, _, _, [], _, [], hW', trodAll_mk1 (shut_bool Tryz.underlying4 _), TrodAll_below laidOutT hbw (by kernel_rfl) hA2 (fun x hx => by simpa using hW'.lt x hx), rfl, hbw.frame _, fun h => by cases h⟩⟩

theorem cupLasts_holds : Rows.CupLastsSaid :=
  OpenClaim.holds_of_wide 10 Tryz.f10 rfl rfl rfl rfl rfl rfl rfl ⟨rfl, rfl, rfl, rfl, rfl⟩ rfl rfl rfl rfl rfl (by kernel_rfl) Tryz.func10 (by kernel_rfl)
    (of_decide_eq_true (by kernel_rfl)) (by unfold Func.isWrapper; first | (rw [if_pos (by decide +kernel)]; kernel_rfl) | (rw [if_neg (by decide +kernel)]; exact ⟨rfl, rfl⟩))
    (fun os started H enc _ => lasts_lifted os started H enc)
#print axioms cupLasts_holds
end Go.Proofs.YtgehgmllhmfbpaaGreat
