/- SheetFields returns true at every input, whatever lies in the Kq memory that fits; what came in reads as it did. The listed library variables are tied to the Jc text (the card). No condition. -/
import Derived.Test.YtfekapdegmfgaaaGreatDoorRows
import Derived.Test.YtfekapdegmfgaaaGreatDoorCards
import Derived.Test.YtfekapdegmfgaaaGreatDoorTie
import Derived.SevenTiedAt
import Derived.LaidLaws
import Derived.Test.YtfekapdegmfgaaaGreatDoorPJSheetFieldsG
namespace Go.Proofs.YtfekapdegmfgaaaGreatDoor
open Go.ChangeShapes Go.WideShapes Go.ChangeAt Go.RowKit
open Go.Proofs.KV
open Go.ChangeMaps (open_string shut_string)

theorem ownKnobT : ownKnob Tryz.prog.godebug = none := by kernel_rfl
theorem laidOutT : laidOutB Tryz.prog = true := by kernel_rfl

set_option maxRecDepth 100000 in
theorem fields_lifted (os : Os) (started : os.Started) (H : Type) (enc : TypeId × Value → H) :
    ReturnsInHanded {} Tryz.checked os 7 .any (fun w args => (Rows.sheetFieldsSpec.pre enc Tryz.prog Tryz.f7 Rows.sheetFieldsRow.domain false w args ∧ laidMetH Tryz.prog Rows.sheetFieldsRow.laid w) ∧ sizedMet enc Tryz.prog Tryz.f7 (OpenSpec.ofChange Rows.sheetFieldsSpec) false w args)
      (Rows.sheetFieldsSpec.post enc Tryz.prog Tryz.f7 false true false false) := by
  refine aJs (C := Tryz.checked) (X := fun w _ => laidMetH Tryz.prog Rows.sheetFieldsRow.laid w) (fun _ _ _ hh h => h.of_heap hh) ownKnobT started (by kernel_rfl) Tryz.func7
    (ChangeSpec.witness_shaped (enc := enc) (C := Tryz.checked) (os := os) (X := fun w _ => laidMetH Tryz.prog Rows.sheetFieldsRow.laid w) false (World.laidAll Tryz.prog os Rows.sheetFieldsRow.laid) #[.int .i64 0, .int .i64 0, .string ⟨#[]⟩] 8 (World.laidAll_os _ _ _)
      (World.shaped_of_ZipB (by kernel_rfl) (by kernel_rfl)) (by kernel_rfl) (by kernel_rfl) (by kernel_rfl)
      (by rw [MakeChecks.laidMetH_plain _ _ _ (by kernel_rfl)]; exact laidMet_laidAll _ (by kernel_rfl) (by kernel_rfl))) ?_
  intro W base args ds gs before hval0 hW hL hsh
  have hval : ∀ (j : Nat) t v, Tryz.f7.params[j]? = some t → args[j]? = some v → Value.okWide Tryz.prog W .any base t v := hval0
  have hW' := hW
  obtain ⟨p, q, hA0, hV, rfl, _, _⟩ := hW
  have hA : DataW.TrodAll enc Tryz.prog W 0 (fun _ => true) true Tryz.f7.params.toList args.toList ds p := hA0
  rw [Tryz.params7] at hA hval
  obtain ⟨v0, v1, v2, d0, d1, d2, p0, p1, p2, rfl, rfl, rfl, h0, h1, h2⟩ := trodAll_three hA
  obtain ⟨rfl, rfl⟩ := trodVars_none hV
  obtain ⟨k, rfl, rfl, rfl, wk⟩ := open_int Tryz.underlying3 (hval 0 3 v0 rfl rfl) h0
  obtain ⟨n, rfl, rfl, rfl, wn⟩ := open_int Tryz.underlying3 (hval 1 3 v1 rfl rfl) h1
  obtain ⟨⟨⟨s⟩⟩, rfl, rfl, rfl, ws⟩ := open_string Tryz.underlying9 (hval 2 9 v2 rfl rfl) h2
  simp only [List.append_nil] at hW'
  refine (FV.law (bZh hL hsh) (args := [.p (aB k), .p (aB n), .p (aD s)]) (us := [.int .i64 k, .int .i64 n, .string ⟨s.toArray⟩]) (fun base => bOn k n s (fun _ => bQe)) rfl (.cons _ _ _ _ (.p _ _ (.v _)) (.cons _ _ _ _ (.p _ _ (.v _)) (.cons _ _ _ _ (.p _ _ (.v _)) .nil)))).mono fun e W' ⟨he, hbw⟩ => ?_
  subst he
  exact ⟨_, rfl, _, _, _, [], [], [], hW', trodAll_mk1 (shut_bool Tryz.underlying4 _), trodAll_mk3 (shut_int Tryz.underlying3 wk) (shut_int Tryz.underlying3 wn) (shut_string Tryz.underlying9 ws), rfl, hbw.frame _, fun h => by cases h⟩

theorem fieldsName : Tryz.checked.prog.funcNamed Rows.sheetFieldsRow.func = some 7 := by kernel_rfl
theorem Od : (Rows.sheetFieldsRow.wf (OpenSpec.ofChange Rows.sheetFieldsSpec)) = true := by kernel_rfl
theorem sC2 : laidOutB Tryz.checked.prog = true := laidOutT
theorem sC3 : mapsRowed Tryz.checked.prog = true := by kernel_rfl
theorem sC4 : (Rows.sheetFieldsRow.inPlace == Tryz.checked.prog.inPlace 7) = true := by kernel_rfl
theorem sC5 : (Rows.sheetFieldsRow.unfollowed == Tryz.checked.prog.unfollowed 7) = true := by kernel_rfl
theorem sC6 : (Rows.sheetFieldsRow.recurses == Tryz.checked.prog.recurses 7) = true := by kernel_rfl
theorem sC7 : (Rows.sheetFieldsRow.named == Tryz.checked.prog.varsNamed 7) = true := by kernel_rfl
/-- in parts, so that each needs less room -/
theorem fieldsClosed : joinedFacts Tryz.checked.prog 7 Tryz.f7 Rows.sheetFieldsSpec Rows.sheetFieldsRow = true := by
  unfold joinedFacts
  rw [Od, sC2, sC3, sC4, sC5, sC6, sC7]
  kernel_rfl

theorem fields_holds : Rows.SheetFieldsSaid :=
  OpenClaim.holds_of_wide 7 Tryz.f7 rfl rfl rfl rfl rfl rfl rfl ⟨rfl, rfl, rfl, rfl, rfl⟩ rfl rfl rfl rfl rfl fieldsName Tryz.func7 fieldsClosed
    (of_decide_eq_true (by kernel_rfl)) (by unfold Func.isWrapper; first | (rw [if_pos (by decide +kernel)]; kernel_rfl) | (rw [if_neg (by decide +kernel)]; exact ⟨rfl, rfl⟩))
    (fun os started H enc _ => fields_lifted os started H enc)

theorem sheetFields_holds : Rows.SheetFieldsCardSaid :=
  Claim7.holds_tied_plain_at .later [] [.data, .data, .data, .data, .sentinel, .sentinel, .pinned] true (true, "fc3a213d7e944039130072f9d0424f91fbc30e25d597438fa960a8a20543f75c") true fields_holds (fun _ h => by cases h) (by kernel_rfl) (fun _ h => by cases h) sheetFields_row_tie rfl ⟨rfl, rfl⟩ bZf rfl
    (fun f fn hf hfn => by
      obtain rfl : f = 7 := Option.some.inj (fieldsName.symm.trans hf) |>.symm
      obtain rfl : fn = Tryz.f7 := (Option.some.inj (Tryz.func7.symm.trans hfn)).symm
      exact ⟨bXp, fun j t ht => by
        rw [Tryz.params7] at ht
        have hm : t ∈ [3, 3, 9] := by simpa using Array.mem_of_getElem? ht
        have hall : ([3, 3, 9].all fun u => !Tryz.prog.wantsStandIn u) = true := by kernel_rfl
        exact (show Tryz.prog.wantsStandIn t = false by simpa using List.all_eq_true.1 hall t hm)⟩)
    aNy
#print axioms sheetFields_holds
end Go.Proofs.YtfekapdegmfgaaaGreatDoor
