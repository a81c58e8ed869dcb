/- SheetParses returns true at every input, whatever lies in the Lb memory that fits; what came in reads as it did. The listed library variables are tied to the Jt text (the card). No condition. -/
import Derived.Test.YtfekapdegmfgaaaGreatDoorRows
import Derived.Test.YtfekapdegmfgaaaGreatDoorCards
import Derived.Test.YtfekapdegmfgaaaGreatDoorTie
import Derived.SevenTiedAt
import Derived.LaidLaws
import Derived.Test.YtfekapdegmfgaaaGreatDoorPJSheetParsesG
namespace Go.Proofs.YtfekapdegmfgaaaGreatDoor
open Go.ChangeShapes Go.WideShapes Go.ChangeAt Go.RowKit
open Go.Proofs.KV
open Go.ChangeMaps (open_string shut_string)

theorem ownKnobT : ownKnob Tryz.prog.godebug = none := by kernel_rfl
theorem laidOutT : laidOutB Tryz.prog = true := by kernel_rfl

set_option maxRecDepth 100000 in
theorem parses_lifted (os : Os) (started : os.Started) (H : Type) (enc : TypeId × Value → H) :
    ReturnsInHanded {} Tryz.checked os 3 .any (fun w args => (Rows.sheetParsesSpec.pre enc Tryz.prog Tryz.f3 Rows.sheetParsesRow.domain false w args ∧ laidMetH Tryz.prog Rows.sheetParsesRow.laid w) ∧ sizedMet enc Tryz.prog Tryz.f3 (OpenSpec.ofChange Rows.sheetParsesSpec) false w args)
      (Rows.sheetParsesSpec.post enc Tryz.prog Tryz.f3 false true false false) := by
  refine aLq (C := Tryz.checked) (X := fun w _ => laidMetH Tryz.prog Rows.sheetParsesRow.laid w) (fun _ _ _ hh h => h.of_heap hh) ownKnobT started (by kernel_rfl) Tryz.func3
    (ChangeSpec.witness_shaped (enc := enc) (C := Tryz.checked) (os := os) (X := fun w _ => laidMetH Tryz.prog Rows.sheetParsesRow.laid w) false (World.laidAll Tryz.prog os Rows.sheetParsesRow.laid) #[.string ⟨#[]⟩] 8 (World.laidAll_os _ _ _)
      (World.shaped_of_ZipB (by kernel_rfl) (by kernel_rfl)) (by kernel_rfl) (by kernel_rfl) (by kernel_rfl)
      (by rw [MakeChecks.laidMetH_plain _ _ _ (by kernel_rfl)]; exact laidMet_laidAll _ (by kernel_rfl) (by kernel_rfl))) ?_
  intro W base args ds gs before hval0 hW hL hsh
  have hval : ∀ (j : Nat) t v, Tryz.f3.params[j]? = some t → args[j]? = some v → Value.okWide Tryz.prog W .any base t v := hval0
  have hW' := hW
  obtain ⟨p, q, hA0, hV, rfl, _, _⟩ := hW
  have hA : DataW.TrodAll enc Tryz.prog W 0 (fun _ => true) true Tryz.f3.params.toList args.toList ds p := hA0
  rw [Tryz.params3] at hA hval
  obtain ⟨v0, d0, rfl, rfl, h0⟩ := trodAll_one hA
  obtain ⟨rfl, rfl⟩ := trodVars_none hV
  obtain ⟨⟨⟨s⟩⟩, rfl, rfl, rfl, ws⟩ := open_string Tryz.underlying9 (hval 0 9 v0 rfl rfl) h0
  simp only [List.append_nil] at hW'
  refine (FV.law (cGh hL hsh) (args := [.p (aC s)]) (us := [.string ⟨s.toArray⟩]) (fun base => bTx s (fun _ => cBk)) rfl (.cons _ _ _ _ (.p _ _ (.v _)) .nil)).mono fun e W' ⟨he, hbw⟩ => ?_
  subst he
  exact ⟨_, rfl, _, _, _, [], [], [], hW', trodAll_mk1 (shut_bool Tryz.underlying4 _), trodAll_mk1 (shut_string Tryz.underlying9 ws), rfl, hbw.frame _, fun h => by cases h⟩

theorem parsesName : Tryz.checked.prog.funcNamed Rows.sheetParsesRow.func = some 3 := by kernel_rfl
theorem O0 : (Rows.sheetParsesRow.wf (OpenSpec.ofChange Rows.sheetParsesSpec)) = true := by kernel_rfl
theorem sC2 : laidOutB Tryz.checked.prog = true := laidOutT
theorem sC3 : mapsRowed Tryz.checked.prog = true := by kernel_rfl
theorem sC4 : (Rows.sheetParsesRow.inPlace == Tryz.checked.prog.inPlace 3) = true := by kernel_rfl
theorem sC5 : (Rows.sheetParsesRow.unfollowed == Tryz.checked.prog.unfollowed 3) = true := by kernel_rfl
theorem sC6 : (Rows.sheetParsesRow.recurses == Tryz.checked.prog.recurses 3) = true := by kernel_rfl
theorem sC7 : (Rows.sheetParsesRow.named == Tryz.checked.prog.varsNamed 3) = true := by kernel_rfl
/-- in parts, so that each needs less room -/
theorem parsesClosed : joinedFacts Tryz.checked.prog 3 Tryz.f3 Rows.sheetParsesSpec Rows.sheetParsesRow = true := by
  unfold joinedFacts
  rw [O0, sC2, sC3, sC4, sC5, sC6, sC7]
  kernel_rfl

theorem parses_holds : Rows.SheetParsesSaid :=
  OpenClaim.holds_of_wide 3 Tryz.f3 rfl rfl rfl rfl rfl rfl rfl ⟨rfl, rfl, rfl, rfl, rfl⟩ rfl rfl rfl rfl rfl parsesName Tryz.func3 parsesClosed
    (of_decide_eq_true (by kernel_rfl)) (by unfold Func.isWrapper; first | (rw [if_pos (by decide +kernel)]; kernel_rfl) | (rw [if_neg (by decide +kernel)]; exact ⟨rfl, rfl⟩))
    (fun os started H enc _ => parses_lifted os started H enc)

theorem sheetParses_holds : Rows.SheetParsesCardSaid :=
  Claim7.holds_tied_plain_at .later [] [.data, .data, .data, .data, .sentinel, .sentinel, .pinned] true (true, "fc3a213d7e944039130072f9d0424f91fbc30e25d597438fa960a8a20543f75c") true parses_holds (fun _ h => by cases h) (by kernel_rfl) (fun _ h => by cases h) sheetParses_row_tie rfl ⟨rfl, rfl⟩ cGf rfl
    (fun f fn hf hfn => by
      obtain rfl : f = 3 := Option.some.inj (parsesName.symm.trans hf) |>.symm
      obtain rfl : fn = Tryz.f3 := (Option.some.inj (Tryz.func3.symm.trans hfn)).symm
      exact ⟨cEi, fun j t ht => by
        rw [Tryz.params3] at ht
        have hm : t ∈ [9] := by simpa using Array.mem_of_getElem? ht
        have hall : ([9].all fun u => !Tryz.prog.wantsStandIn u) = true := by kernel_rfl
        exact (show Tryz.prog.wantsStandIn t = false by simpa using List.all_eq_true.1 hall t hm)⟩)
    aQs
#print axioms sheetParses_holds
end Go.Proofs.YtfekapdegmfgaaaGreatDoor
