/- JuryResults returns true at every input; what came in reads as it did. No condition. -/
import Derived.Test.YtgejpbmanhlkcaaGreatRows
import Derived.Test.YtgejpbmanhlkcaaGreatPJResultsF
namespace Go.Proofs.YtgejpbmanhlkcaaGreat
open Go.ChangeShapes Go.WideShapes Go.ChangeAt Go.RowKit
open Go.Proofs.KV

theorem ownKnobT : ownKnob Tryz.prog.godebug = none := by kernel_rfl
theorem laidOutT : laidOutB Tryz.prog = true := by kernel_rfl
theorem cells3T : Tryz.prog.cellsOf 3 = 1 := by kernel_rfl
theorem cells23T : Tryz.prog.cellsOf 23 = 1 := by kernel_rfl
theorem cells24T : Tryz.prog.cellsOf 24 = 1 := by kernel_rfl
theorem cells26T : Tryz.prog.cellsOf 26 = 3 := by kernel_rfl
theorem cells31T : Tryz.prog.cellsOf 31 = 2 := by kernel_rfl
theorem cells44T : Tryz.prog.cellsOf 44 = 6 := by kernel_rfl
theorem cells42T : Tryz.prog.cellsOf 42 = 1 := by kernel_rfl
theorem fs31 : aHo Tryz.prog #[{ name := "Bib", type := 3, offset := 0, embedded := false, tag := "", pkgPath := "", byteOffset := 0 }, { name := "Time", type := 3, offset := 1, embedded := false, tag := "", pkgPath := "", byteOffset := 8 }] := by
  intro j f h
  match j, h with
  | 0, h => cases h; exact ⟨rfl, cells3T, Tryz.underlying3⟩
  | 1, h => cases h; exact ⟨rfl, cells3T, Tryz.underlying3⟩
  | n + 2, h => simp at h
theorem fs44 : aHo Tryz.prog #[{ name := "Number", type := 3, offset := 0, embedded := false, tag := "", pkgPath := "", byteOffset := 0 }, { name := "Kind", type := 42, offset := 1, embedded := false, tag := "", pkgPath := "", byteOffset := 8 }, { name := "Minute", type := 3, offset := 2, embedded := false, tag := "", pkgPath := "", byteOffset := 16 }, { name := "Bib", type := 3, offset := 3, embedded := false, tag := "", pkgPath := "", byteOffset := 24 }, { name := "Much", type := 3, offset := 4, embedded := false, tag := "", pkgPath := "", byteOffset := 32 }, { name := "About", type := 3, offset := 5, embedded := false, tag := "", pkgPath := "", byteOffset := 40 }] := by
  intro j f h
  match j, h with
  | 0, h => cases h; exact ⟨rfl, cells3T, Tryz.underlying3⟩
  | 1, h => cases h; exact ⟨rfl, cells42T, Tryz.underlying42⟩
  | 2, h => cases h; exact ⟨rfl, cells3T, Tryz.underlying3⟩
  | 3, h => cases h; exact ⟨rfl, cells3T, Tryz.underlying3⟩
  | 4, h => cases h; exact ⟨rfl, cells3T, Tryz.underlying3⟩
  | 5, h => cases h; exact ⟨rfl, cells3T, Tryz.underlying3⟩
  | n + 6, h => simp at h

set_option maxRecDepth 100000 in
theorem results_lifted (os : Os) (started : os.Started) (H : Type) (enc : TypeId × Value → H) :
    ReturnsInHanded {} Tryz.checked os 11 .any (Rows.juryResultsSpec.pre6 enc Tryz.prog Tryz.f11 Rows.juryResultsRow.domain false) (Rows.juryResultsSpec.post enc Tryz.prog Tryz.f11 false true false false) := by
  refine returnsInHanded_of_change (C := Tryz.checked) ownKnobT started (by kernel_rfl) Tryz.func11
    (ChangeSpec.witness6 (enc := enc) (C := Tryz.checked) false ⟨#[], #[.agg #[.int .i64 0, .slice none 0 0, .slice none 0 0], .int .i64 0, .slice none 0 0], []⟩ 8 (by kernel_rfl) (by kernel_rfl) (by kernel_rfl) (by kernel_rfl)) ?_
  intro W base args ds gs before hval0 hW _ _
  have hval : ∀ (j : Nat) t v, Tryz.f11.params[j]? = some t → args[j]? = some v → Value.okWide Tryz.prog W .any base t v := hval0
  have hW' := hW
  obtain ⟨p, q, hA0, hV, rfl, _, _⟩ := hW
  have hA : DataW.TrodAll enc Tryz.prog W 0 (fun _ => true) true Tryz.f11.params.toList args.toList ds p := hA0
  have hA2 := hA
  rw [Tryz.params11] at hA hval
  obtain ⟨v0, v1, v2, d0, d1, d2, p0, p1, p2, rfl, rfl, rfl, h0, h1, h2⟩ := trodAll_three hA
  obtain ⟨rfl, rfl⟩ := trodVars_none hV
  clear hA0 hval0
  simp only [List.append_nil] at hW' hA2
  obtain ⟨dl0, sk0, dc0, wl0, us0, ud0, hl0⟩ := bMp Tryz.underlying26 Tryz.underlying3 Tryz.underlying23 Tryz.underlying24 Tryz.underlying31 Tryz.underlying44 rfl rfl cells31T cells44T fs31 fs44 cells3T cells23T cells24T cells26T rfl rfl rfl rfl rfl rfl (hval 0 _ v0 rfl rfl) h0
  obtain ⟨b1, rfl, rfl, rfl, wb1⟩ := open_int Tryz.underlying3 (hval 1 3 v1 rfl rfl) h1
  have hr1 : inR b1 := bMo wb1
  obtain ⟨l2, hl2, hlw2, hll2⟩ := bBi Tryz.underlying33 Tryz.underlying3 cells3T (hval 2 _ v2 rfl rfl) h2
  have hi2 : ∀ n ∈ l2, inR n := fun n hn => bMo (hlw2 n hn)
  refine (FV.law (args := [.p (.agg (aX dl0 sk0 dc0)), .p (aA b1), .p (aG l2)]) (us := [v0, .int .i64 b1, v2]) (fun base => bZw (base := base) bRp dl0 sk0 dc0 b1 l2 us0 ud0 hr1 hi2) rfl (.cons _ _ _ _ (.p _ _ hl0) (.cons _ _ _ _ (.p _ _ (.v _)) (.cons _ _ _ _ (.p _ _ hl2) .nil)))).mono fun e W' ⟨he, hbw⟩ => ?_
  subst he
  exact ⟨_, rfl, ⟨_, _, _, [], _, [], hW', trodAll_mk1 (shut_bool Tryz.underlying4 _), vL laidOutT hbw (by kernel_rfl) hA2 (fun x hx => by simpa using hW'.lt x hx), rfl, hbw.frame _, fun h => by cases h⟩⟩

theorem resultsName : Tryz.checked.prog.funcNamed Rows.juryResultsRow.func = some 11 := by kernel_rfl
theorem sC1 : (Rows.juryResultsRow.wf (OpenSpec.ofChange Rows.juryResultsSpec)) = true := by kernel_rfl
theorem sC2 : laidOutB Tryz.checked.prog = true := laidOutT
theorem sC3 : mapsRowed Tryz.checked.prog = true := by kernel_rfl
theorem sC4 : (Rows.juryResultsRow.inPlace == Tryz.checked.prog.inPlace 11) = true := by kernel_rfl
theorem sC5 : (Rows.juryResultsRow.unfollowed == Tryz.checked.prog.unfollowed 11) = true := by kernel_rfl
theorem sC6 : (Rows.juryResultsRow.recurses == Tryz.checked.prog.recurses 11) = true := by kernel_rfl
theorem sC7 : (Rows.juryResultsRow.named == Tryz.checked.prog.varsNamed 11) = true := by kernel_rfl
/-- in parts, so that each needs less room -/
theorem resultsClosed : joinedFacts Tryz.checked.prog 11 Tryz.f11 Rows.juryResultsSpec Rows.juryResultsRow = true := by
  unfold joinedFacts
  rw [sC1, sC2, sC3, sC4, sC5, sC6, sC7]
  kernel_rfl

theorem juryResults_holds : Rows.JuryResultsSaid :=
  OpenClaim.holds_of_wide 11 Tryz.f11 rfl rfl rfl rfl rfl rfl rfl ⟨rfl, rfl, rfl, rfl, rfl⟩ rfl rfl rfl rfl rfl resultsName Tryz.func11 resultsClosed
    (of_decide_eq_true (by kernel_rfl)) (by unfold Func.isWrapper; first | (rw [if_pos (by decide +kernel)]; kernel_rfl) | (rw [if_neg (by decide +kernel)]; exact ⟨rfl, rfl⟩))
    (fun os started H enc _ => results_lifted os started H enc)
#print axioms juryResults_holds
end Go.Proofs.YtgejpbmanhlkcaaGreat
