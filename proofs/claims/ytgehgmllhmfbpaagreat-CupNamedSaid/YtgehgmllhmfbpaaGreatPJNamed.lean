/- CupNamed returns true at every input; what came in reads as it did. No condition. -/
import Derived.Test.YtgehgmllhmfbpaaGreatRows
import Derived.Test.YtgehgmllhmfbpaaGreatPJNamedF
namespace Go.Proofs.YtgehgmllhmfbpaaGreat
open Go.ChangeShapes Go.WideShapes Go.ChangeAt Go.RowKit
open Go.Proofs.KV

theorem ownKnobT : ownKnob Tryz.prog.godebug = none := by kernel_rfl
theorem laidOutT : laidOutB Tryz.prog = true := by kernel_rfl
theorem cells5T : Tryz.prog.cellsOf 5 = 1 := by kernel_rfl

set_option maxRecDepth 100000 in
theorem named_lifted (os : Os) (started : os.Started) (H : Type) (enc : TypeId × Value → H) :
    ReturnsInHanded {} Tryz.checked os 7 .any (Rows.cupNamedSpec.pre6 enc Tryz.prog Tryz.f7 Rows.cupNamedRow.domain false) (Rows.cupNamedSpec.post enc Tryz.prog Tryz.f7 false true false false) := by
  refine returnsInHanded_of_change (C := Tryz.checked) ownKnobT started (by kernel_rfl) Tryz.func7
    (ChangeSpec.witness6 (enc := enc) (C := Tryz.checked) false ⟨#[], #[.slice none 0 0, .slice none 0 0, .int .u8 0], []⟩ 8 (by kernel_rfl) (by kernel_rfl) (by kernel_rfl) (by kernel_rfl)) ?_
  intro W base args ds gs before hval0 hW _ _
  have hval : ∀ (j : Nat) t v, Tryz.f7.params[j]? = some t → args[j]? = some v → Value.okWide Tryz.prog W .any base t v := hval0
  have hW' := hW
  obtain ⟨p, q, hA0, hV, rfl, _, _⟩ := hW
  have hA : DataW.TrodAll enc Tryz.prog W 0 (fun _ => true) true Tryz.f7.params.toList args.toList ds p := hA0
  have hA2 := hA
  rw [Tryz.params7] at hA hval
  obtain ⟨v0, v1, v2, d0, d1, d2, p0, p1, p2, rfl, rfl, rfl, h0, h1, h2⟩ := trodAll_three hA
  obtain ⟨rfl, rfl⟩ := trodVars_none hV
  clear hA0 hval0
  simp only [List.append_nil] at hW' hA2
  obtain ⟨l0, hl0, hlw0, hll0⟩ := read_ints Tryz.underlying44 Tryz.underlying5 cells5T (hval 0 _ v0 rfl rfl) h0
  obtain ⟨l1, hl1, hlw1, hll1⟩ := read_ints Tryz.underlying44 Tryz.underlying5 cells5T (hval 1 _ v1 rfl rfl) h1
  obtain ⟨b2, rfl, rfl, rfl, wb2⟩ := open_int Tryz.underlying5 (hval 2 5 v2 rfl rfl) h2
  have hb2 : 0 ≤ b2 ∧ b2 ≤ 255 := by
    have e1 : IntKind.u8.min = 0 := rfl
    have e2 : IntKind.u8.max = 255 := rfl
    simpa [Lit.wf, e1, e2] using wb2
  refine (FV.law (args := [.p (.sl l0.length (l0.map byteP)), .p (.sl l1.length (l1.map byteP)), .p (.v (.int .u8 b2))]) (us := [v0, v1, .int .u8 b2]) (fun base => named_law l0 l1 b2 hb2 awake_ok) rfl (.cons _ _ _ _ (.p _ _ hl0) (.cons _ _ _ _ (.p _ _ hl1) (.cons _ _ _ _ (.p _ _ (.v _)) .nil)))).mono fun e W' ⟨he, hbw⟩ => ?_
  subst he
  exact ⟨_, rfl, ⟨_, _, _, [], _, [], hW', trodAll_mk1 (shut_bool Tryz.underlying4 _), TrodAll_below laidOutT hbw (by kernel_rfl) hA2 (fun x hx => by simpa using hW'.lt x hx), rfl, hbw.frame _, fun h => by cases h⟩⟩

theorem cupNamed_holds : Rows.CupNamedSaid :=
  OpenClaim.holds_of_wide 7 Tryz.f7 rfl rfl rfl rfl rfl rfl rfl ⟨rfl, rfl, rfl, rfl, rfl⟩ rfl rfl rfl rfl rfl (by kernel_rfl) Tryz.func7 (by kernel_rfl)
    (of_decide_eq_true (by kernel_rfl)) (by unfold Func.isWrapper; first | (rw [if_pos (by decide +kernel)]; kernel_rfl) | (rw [if_neg (by decide +kernel)]; exact ⟨rfl, rfl⟩))
    (fun os started H enc _ => named_lifted os started H enc)
#print axioms cupNamed_holds
end Go.Proofs.YtgehgmllhmfbpaaGreat
