/- JuryFirsts returns true at every input; what came in reads as it did. No condition. -/
import Derived.Test.YtgejpbmanhlkcaaGreatRows
import Derived.Test.YtgejpbmanhlkcaaGreatPJFirstsF
namespace Go.Proofs.YtgejpbmanhlkcaaGreat
open Go.ChangeShapes Go.WideShapes Go.ChangeAt Go.RowKit
open Go.Proofs.KV

theorem ownKnobT : ownKnob Tryz.prog.godebug = none := by kernel_rfl
theorem laidOutT : laidOutB Tryz.prog = true := by kernel_rfl
theorem cells3T : Tryz.prog.cellsOf 3 = 1 := by kernel_rfl
theorem cells23T : Tryz.prog.cellsOf 23 = 1 := by kernel_rfl
theorem cells24T : Tryz.prog.cellsOf 24 = 1 := by kernel_rfl
theorem cells26T : Tryz.prog.cellsOf 26 = 3 := by kernel_rfl
theorem cells31T : Tryz.prog.cellsOf 31 = 2 := by kernel_rfl
theorem cells44T : Tryz.prog.cellsOf 44 = 6 := by kernel_rfl
theorem cells42T : Tryz.prog.cellsOf 42 = 1 := by kernel_rfl
theorem fs31 : aHg Tryz.prog #[{ name := "Bib", type := 3, offset := 0, embedded := false, tag := "", pkgPath := "", byteOffset := 0 }, { name := "Time", type := 3, offset := 1, embedded := false, tag := "", pkgPath := "", byteOffset := 8 }] := by
  intro j f h
  match j, h with
  | 0, h => cases h; exact ⟨rfl, cells3T, Tryz.underlying3⟩
  | 1, h => cases h; exact ⟨rfl, cells3T, Tryz.underlying3⟩
  | n + 2, h => simp at h
theorem fs44 : aHg Tryz.prog #[{ name := "Number", type := 3, offset := 0, embedded := false, tag := "", pkgPath := "", byteOffset := 0 }, { name := "Kind", type := 42, offset := 1, embedded := false, tag := "", pkgPath := "", byteOffset := 8 }, { name := "Minute", type := 3, offset := 2, embedded := false, tag := "", pkgPath := "", byteOffset := 16 }, { name := "Bib", type := 3, offset := 3, embedded := false, tag := "", pkgPath := "", byteOffset := 24 }, { name := "Much", type := 3, offset := 4, embedded := false, tag := "", pkgPath := "", byteOffset := 32 }, { name := "About", type := 3, offset := 5, embedded := false, tag := "", pkgPath := "", byteOffset := 40 }] := by
  intro j f h
  match j, h with
  | 0, h => cases h; exact ⟨rfl, cells3T, Tryz.underlying3⟩
  | 1, h => cases h; exact ⟨rfl, cells42T, Tryz.underlying42⟩
  | 2, h => cases h; exact ⟨rfl, cells3T, Tryz.underlying3⟩
  | 3, h => cases h; exact ⟨rfl, cells3T, Tryz.underlying3⟩
  | 4, h => cases h; exact ⟨rfl, cells3T, Tryz.underlying3⟩
  | 5, h => cases h; exact ⟨rfl, cells3T, Tryz.underlying3⟩
  | n + 6, h => simp at h

set_option maxRecDepth 100000 in
theorem firsts_lifted (os : Os) (started : os.Started) (H : Type) (enc : TypeId × Value → H) :
    ReturnsInHanded {} Tryz.checked os 5 .any (Rows.juryFirstsSpec.pre6 enc Tryz.prog Tryz.f5 Rows.juryFirstsRow.domain false) (Rows.juryFirstsSpec.post enc Tryz.prog Tryz.f5 false true false false) := by
  refine returnsInHanded_of_change (C := Tryz.checked) ownKnobT started (by kernel_rfl) Tryz.func5
    (ChangeSpec.witness6 (enc := enc) (C := Tryz.checked) false ⟨#[], #[.agg #[.int .i64 0, .slice none 0 0, .slice none 0 0], .int .i64 0], []⟩ 8 (by kernel_rfl) (by kernel_rfl) (by kernel_rfl) (by kernel_rfl)) ?_
  intro W base args ds gs before hval0 hW _ _
  have hval : ∀ (j : Nat) t v, Tryz.f5.params[j]? = some t → args[j]? = some v → Value.okWide Tryz.prog W .any base t v := hval0
  have hW' := hW
  obtain ⟨p, q, hA0, hV, rfl, _, _⟩ := hW
  have hA : DataW.TrodAll enc Tryz.prog W 0 (fun _ => true) true Tryz.f5.params.toList args.toList ds p := hA0
  have hA2 := hA
  rw [Tryz.params5] at hA hval
  obtain ⟨v0, v1, d0, d1, p0, p1, rfl, rfl, rfl, h0, h1⟩ := trodAll_two hA
  obtain ⟨rfl, rfl⟩ := trodVars_none hV
  clear hA0 hval0
  simp only [List.append_nil] at hW' hA2
  obtain ⟨dl0, sk0, dc0, wl0, us0, ud0, hl0⟩ := bMz Tryz.underlying26 Tryz.underlying3 Tryz.underlying23 Tryz.underlying24 Tryz.underlying31 Tryz.underlying44 rfl rfl cells31T cells44T fs31 fs44 cells3T cells23T cells24T cells26T rfl rfl rfl rfl rfl rfl (hval 0 _ v0 rfl rfl) h0
  obtain ⟨b1, rfl, rfl, rfl, wb1⟩ := open_int Tryz.underlying3 (hval 1 3 v1 rfl rfl) h1
  have Hv : inR b1 := cAg wb1
  refine (FV.law (args := [.p (.agg (bB dl0 sk0 dc0)), .p (aA b1)]) (us := [v0, .int .i64 b1]) (fun base => cAs (base := base) bSg dl0 sk0 dc0 b1 us0 ud0 Hv) rfl (.cons _ _ _ _ (.p _ _ hl0) (.cons _ _ _ _ (.p _ _ (.v _)) .nil))).mono fun e W' ⟨he, hbw⟩ => ?_
  subst he
  exact ⟨_, rfl, ⟨_, _, _, [], _, [], hW', trodAll_mk1 (shut_bool Tryz.underlying4 _), vM laidOutT hbw (by kernel_rfl) hA2 (fun x hx => by simpa using hW'.lt x hx), rfl, hbw.frame _, fun h => by cases h⟩⟩

theorem firstsName : Tryz.checked.prog.funcNamed Rows.juryFirstsRow.func = some 5 := by kernel_rfl
theorem Vl : (Rows.juryFirstsRow.wf (OpenSpec.ofChange Rows.juryFirstsSpec)) = true := by kernel_rfl
theorem sC2 : laidOutB Tryz.checked.prog = true := laidOutT
theorem sC3 : mapsRowed Tryz.checked.prog = true := by kernel_rfl
theorem sC4 : (Rows.juryFirstsRow.inPlace == Tryz.checked.prog.inPlace 5) = true := by kernel_rfl
theorem sC5 : (Rows.juryFirstsRow.unfollowed == Tryz.checked.prog.unfollowed 5) = true := by kernel_rfl
theorem sC6 : (Rows.juryFirstsRow.recurses == Tryz.checked.prog.recurses 5) = true := by kernel_rfl
theorem sC7 : (Rows.juryFirstsRow.named == Tryz.checked.prog.varsNamed 5) = true := by kernel_rfl
/-- in parts, so that each needs less room -/
theorem firstsClosed : joinedFacts Tryz.checked.prog 5 Tryz.f5 Rows.juryFirstsSpec Rows.juryFirstsRow = true := by
  unfold joinedFacts
  rw [Vl, sC2, sC3, sC4, sC5, sC6, sC7]
  kernel_rfl

theorem juryFirsts_holds : Rows.JuryFirstsSaid :=
  OpenClaim.holds_of_wide 5 Tryz.f5 rfl rfl rfl rfl rfl rfl rfl ⟨rfl, rfl, rfl, rfl, rfl⟩ rfl rfl rfl rfl rfl firstsName Tryz.func5 firstsClosed
    (of_decide_eq_true (by kernel_rfl)) (by unfold Func.isWrapper; first | (rw [if_pos (by decide +kernel)]; kernel_rfl) | (rw [if_neg (by decide +kernel)]; exact ⟨rfl, rfl⟩))
    (fun os started H enc _ => firsts_lifted os started H enc)
#print axioms juryFirsts_holds
end Go.Proofs.YtgejpbmanhlkcaaGreat
