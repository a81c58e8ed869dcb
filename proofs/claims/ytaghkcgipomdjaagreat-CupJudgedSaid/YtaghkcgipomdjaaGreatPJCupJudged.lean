/- CupJudged returns true at every input; what came in reads as it did. No condition. -/
import Derived.Test.YtaghkcgipomdjaaGreatRows
import Derived.Test.YtaghkcgipomdjaaGreatPJCupJudgedF
namespace Go.Proofs.YtaghkcgipomdjaaGreat
open Go.ChangeShapes Go.WideShapes Go.ChangeAt Go.RowKit
open Go.Proofs.KV

theorem ownKnobT : ownKnob Tryz.prog.godebug = none := by kernel_rfl
theorem laidOutT : laidOutB Tryz.prog = true := by kernel_rfl
theorem cells3T : Tryz.prog.cellsOf 3 = 1 := by kernel_rfl
theorem cells5T : Tryz.prog.cellsOf 5 = 1 := by kernel_rfl

set_option maxRecDepth 100000 in
theorem judged_lifted (os : Os) (started : os.Started) (H : Type) (enc : TypeId × Value → H) :
    ReturnsInHanded {} Tryz.checked os 6 .any (Rows.cupJudgedSpec.pre6 enc Tryz.prog Tryz.f6 Rows.cupJudgedRow.domain false) (Rows.cupJudgedSpec.post enc Tryz.prog Tryz.f6 false true false false) := by
  refine returnsInHanded_of_change (C := Tryz.checked) ownKnobT started (by kernel_rfl) Tryz.func6
    (ChangeSpec.witness6 (enc := enc) (C := Tryz.checked) false ⟨#[], #[.slice none 0 0, .slice none 0 0, .int .u8 0, .int .u8 0], []⟩ 8 (by kernel_rfl) (by kernel_rfl) (by kernel_rfl) (by kernel_rfl)) ?_
  intro W base args ds gs before hval0 hW _ _
  have hval : ∀ (j : Nat) t v, Tryz.f6.params[j]? = some t → args[j]? = some v → Value.okWide Tryz.prog W .any base t v := hval0
  have hW' := hW
  obtain ⟨p, q, hA0, hV, rfl, _, _⟩ := hW
  have hA : DataW.TrodAll enc Tryz.prog W 0 (fun _ => true) true Tryz.f6.params.toList args.toList ds p := hA0
  have hA2 := hA
  rw [Tryz.params6] at hA hval
  obtain ⟨v0, v1, v2, v3, d0, d1, d2, d3, p0, p1, p2, p3, rfl, rfl, rfl, h0, h1, h2, h3⟩ := trodAll_four hA
  obtain ⟨rfl, rfl⟩ := trodVars_none hV
  clear hA0 hval0
  simp only [List.append_nil] at hW' hA2
  obtain ⟨l0, hl0, hlw0, hll0⟩ := aGw Tryz.underlying22 Tryz.underlying5 cells5T (hval 0 _ v0 rfl rfl) h0
  obtain ⟨l1, hl1, hlw1, hll1⟩ := aGw Tryz.underlying22 Tryz.underlying5 cells5T (hval 1 _ v1 rfl rfl) h1
  obtain ⟨b2, rfl, rfl, rfl, wb2⟩ := open_int Tryz.underlying5 (hval 2 5 v2 rfl rfl) h2
  have Ct : 0 ≤ b2 ∧ b2 ≤ 255 := by
    have e1 : IntKind.u8.min = 0 := rfl
    have e2 : IntKind.u8.max = 255 := rfl
    simpa [Lit.wf, e1, e2] using wb2
  obtain ⟨b3, rfl, rfl, rfl, wb3⟩ := open_int Tryz.underlying5 (hval 3 5 v3 rfl rfl) h3
  have J7 : 0 ≤ b3 ∧ b3 ≤ 255 := by
    have e1 : IntKind.u8.min = 0 := rfl
    have e2 : IntKind.u8.max = 255 := rfl
    simpa [Lit.wf, e1, e2] using wb3
  refine (FV.law (args := [.p (.sl l0.length (l0.map cT)), .p (.sl l1.length (l1.map cT)), .p (.v (.int .u8 b2)), .p (.v (.int .u8 b3))]) (us := [v0, v1, .int .u8 b2, .int .u8 b3]) (fun base => bYo (base := base) (fun {base} => CU.awake_ok base) l0 l1 b2 b3 Ct J7) rfl (.cons _ _ _ _ (.p _ _ hl0) (.cons _ _ _ _ (.p _ _ hl1) (.cons _ _ _ _ (.p _ _ (.v _)) (.cons _ _ _ _ (.p _ _ (.v _)) .nil))))).mono fun e W' ⟨he, hbw⟩ => ?_
  subst he
  exact ⟨_, rfl, ⟨_, _, _, [], _, [], hW', trodAll_mk1 (shut_bool Tryz.underlying4 _), sU laidOutT hbw (by kernel_rfl) hA2 (fun x hx => by simpa using hW'.lt x hx), rfl, hbw.frame _, fun h => by cases h⟩⟩

theorem judgedName : Tryz.checked.prog.funcNamed Rows.cupJudgedRow.func = some 6 := by kernel_rfl
theorem Sb : (Rows.cupJudgedRow.wf (OpenSpec.ofChange Rows.cupJudgedSpec)) = true := by kernel_rfl
theorem sC2 : laidOutB Tryz.checked.prog = true := laidOutT
theorem sC3 : mapsRowed Tryz.checked.prog = true := by kernel_rfl
theorem sC4 : (Rows.cupJudgedRow.inPlace == Tryz.checked.prog.inPlace 6) = true := by kernel_rfl
theorem sC5 : (Rows.cupJudgedRow.unfollowed == Tryz.checked.prog.unfollowed 6) = true := by kernel_rfl
theorem sC6 : (Rows.cupJudgedRow.recurses == Tryz.checked.prog.recurses 6) = true := by kernel_rfl
theorem sC7 : (Rows.cupJudgedRow.named == Tryz.checked.prog.varsNamed 6) = true := by kernel_rfl
/-- in parts, so that each needs less room -/
theorem judgedClosed : joinedFacts Tryz.checked.prog 6 Tryz.f6 Rows.cupJudgedSpec Rows.cupJudgedRow = true := by
  unfold joinedFacts
  rw [Sb, sC2, sC3, sC4, sC5, sC6, sC7]
  kernel_rfl

theorem cupJudged_holds : Rows.CupJudgedSaid :=
  OpenClaim.holds_of_wide 6 Tryz.f6 rfl rfl rfl rfl rfl rfl rfl ⟨rfl, rfl, rfl, rfl, rfl⟩ rfl rfl rfl rfl rfl judgedName Tryz.func6 judgedClosed
    (of_decide_eq_true (by kernel_rfl)) (by unfold Func.isWrapper; first | (rw [if_pos (by decide +kernel)]; kernel_rfl) | (rw [if_neg (by decide +kernel)]; exact ⟨rfl, rfl⟩))
    (fun os started H enc _ => judged_lifted os started H enc)
#print axioms cupJudged_holds
end Go.Proofs.YtaghkcgipomdjaaGreat
