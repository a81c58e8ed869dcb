/- SheetRead returns true at every input, whatever lies in the Ld memory that fits; what came in reads as it did. The listed library variables are tied to the Jr text (the card). No condition. -/
import Derived.Test.YtfekapdegmfgaaaGreatDoorRows
import Derived.Test.YtfekapdegmfgaaaGreatDoorCards
import Derived.Test.YtfekapdegmfgaaaGreatDoorTie
import Derived.SevenTiedAt
import Derived.LaidLaws
import Derived.Test.YtfekapdegmfgaaaGreatDoorPJSheetReadG
namespace Go.Proofs.YtfekapdegmfgaaaGreatDoor
open Go.ChangeShapes Go.WideShapes Go.ChangeAt Go.RowKit
open Go.Proofs.KV
open Go.ChangeMaps (open_string shut_string)

theorem ownKnobT : ownKnob Tryz.prog.godebug = none := by kernel_rfl
theorem cells5T : Tryz.prog.cellsOf 5 = 1 := by kernel_rfl
theorem laidOutT : laidOutB Tryz.prog = true := by kernel_rfl

set_option maxRecDepth 100000 in
theorem read_lifted (os : Os) (started : os.Started) (H : Type) (enc : TypeId × Value → H) :
    ReturnsInHanded {} Tryz.checked os 5 .any (fun w args => (Rows.sheetReadSpec.pre enc Tryz.prog Tryz.f5 Rows.sheetReadRow.domain false w args ∧ laidMetH Tryz.prog Rows.sheetReadRow.laid w) ∧ sizedMet enc Tryz.prog Tryz.f5 (OpenSpec.ofChange Rows.sheetReadSpec) false w args)
      (Rows.sheetReadSpec.post enc Tryz.prog Tryz.f5 false true false false) := by
  refine aVx (C := Tryz.checked) (X := fun w _ => laidMetH Tryz.prog Rows.sheetReadRow.laid w) (fun _ _ _ hh h => h.of_heap hh) ownKnobT started (by kernel_rfl) Tryz.func5
    (ChangeSpec.witness_shaped (enc := enc) (C := Tryz.checked) (os := os) (X := fun w _ => laidMetH Tryz.prog Rows.sheetReadRow.laid w) false (World.laidAll Tryz.prog os Rows.sheetReadRow.laid) #[.slice none 0 0, .int .i64 0, .string ⟨#[]⟩] 8 (World.laidAll_os _ _ _)
      (World.shaped_of_ZipB (by kernel_rfl) (by kernel_rfl)) (by kernel_rfl) (by kernel_rfl) (by kernel_rfl)
      (by rw [MakeChecks.laidMetH_plain _ _ _ (by kernel_rfl)]; exact laidMet_laidAll _ (by kernel_rfl) (by kernel_rfl))) ?_
  intro W base args ds gs before hval0 hW hz hL hsh
  have hval : ∀ (j : Nat) t v, Tryz.f5.params[j]? = some t → args[j]? = some v → Value.okWide Tryz.prog W .any base t v := hval0
  have hW' := hW
  obtain ⟨p, q, hA0, hV, rfl, _, _⟩ := hW
  have hA : DataW.TrodAll enc Tryz.prog W 0 (fun _ => true) true Tryz.f5.params.toList args.toList ds p := hA0
  have hA2 := hA
  rw [Tryz.params5] at hA hval
  obtain ⟨v0, v1, v2, d0, d1, d2, p0, p1, p2, rfl, rfl, rfl, h0, h1, h2⟩ := trodAll_three hA
  obtain ⟨rfl, rfl⟩ := trodVars_none hV
  obtain ⟨l0, hl0, hlw0, hll0⟩ := aVw Tryz.underlying48 Tryz.underlying5 cells5T (hval 0 48 v0 rfl rfl) h0
  obtain ⟨n, rfl, rfl, rfl, wn⟩ := open_int Tryz.underlying3 (hval 1 3 v1 rfl rfl) h1
  obtain ⟨⟨⟨s⟩⟩, rfl, rfl, rfl, ws⟩ := open_string Tryz.underlying9 (hval 2 9 v2 rfl rfl) h2
  simp only [List.append_nil] at hW' hA2
  rw [Tryz.params5] at hz
  have hsz : s.length ≤ reachBytes := sized_string (j := 2) (t := 9) hz rfl rfl
  refine (FV.law (cDq hL hsh) (args := [.p (.sl l0.length (l0.map dV)), .p (aB n), .p (aD s)]) (us := [v0, .int .i64 n, .string ⟨s.toArray⟩]) (fun base => bSp l0 n s (Nat.le_trans hsz (by decide)) (fun _ => bYr)) rfl (.cons _ _ _ _ (.p _ _ hl0) (.cons _ _ _ _ (.p _ _ (.v _)) (.cons _ _ _ _ (.p _ _ (.v _)) .nil)))).mono fun e W' ⟨he, hbw⟩ => ?_
  subst he
  exact ⟨_, rfl, ⟨_, _, _, [], _, [], hW', trodAll_mk1 (shut_bool Tryz.underlying4 _), rU laidOutT hbw (by kernel_rfl) hA2 (fun x hx => by simpa using hW'.lt x hx), rfl, hbw.frame _, fun h => by cases h⟩⟩

theorem readName : Tryz.checked.prog.funcNamed Rows.sheetReadRow.func = some 5 := by kernel_rfl
theorem O2 : (Rows.sheetReadRow.wf (OpenSpec.ofChange Rows.sheetReadSpec)) = true := by kernel_rfl
theorem sC2 : laidOutB Tryz.checked.prog = true := laidOutT
theorem sC3 : mapsRowed Tryz.checked.prog = true := by kernel_rfl
theorem sC4 : (Rows.sheetReadRow.inPlace == Tryz.checked.prog.inPlace 5) = true := by kernel_rfl
theorem sC5 : (Rows.sheetReadRow.unfollowed == Tryz.checked.prog.unfollowed 5) = true := by kernel_rfl
theorem sC6 : (Rows.sheetReadRow.recurses == Tryz.checked.prog.recurses 5) = true := by kernel_rfl
theorem sC7 : (Rows.sheetReadRow.named == Tryz.checked.prog.varsNamed 5) = true := by kernel_rfl
/-- in parts, so that each needs less room -/
theorem readClosed : joinedFacts Tryz.checked.prog 5 Tryz.f5 Rows.sheetReadSpec Rows.sheetReadRow = true := by
  unfold joinedFacts
  rw [O2, sC2, sC3, sC4, sC5, sC6, sC7]
  kernel_rfl

theorem read_holds : Rows.SheetReadSaid :=
  OpenClaim.holds_of_wide 5 Tryz.f5 rfl rfl rfl rfl rfl rfl rfl ⟨rfl, rfl, rfl, rfl, rfl⟩ rfl rfl rfl rfl rfl readName Tryz.func5 readClosed
    (of_decide_eq_true (by kernel_rfl)) (by unfold Func.isWrapper; first | (rw [if_pos (by decide +kernel)]; kernel_rfl) | (rw [if_neg (by decide +kernel)]; exact ⟨rfl, rfl⟩))
    (fun os started H enc _ => read_lifted os started H enc)

theorem sheetRead_holds : Rows.SheetReadCardSaid :=
  Claim7.holds_tied_plain_at .later [] [.data, .data, .data, .data, .sentinel, .sentinel, .pinned] true (true, "fc3a213d7e944039130072f9d0424f91fbc30e25d597438fa960a8a20543f75c") true read_holds (fun _ h => by cases h) (by kernel_rfl) (fun _ h => by cases h) sheetRead_row_tie rfl ⟨rfl, rfl⟩ cDo rfl
    (fun f fn hf hfn => by
      obtain rfl : f = 5 := Option.some.inj (readName.symm.trans hf) |>.symm
      obtain rfl : fn = Tryz.f5 := (Option.some.inj (Tryz.func5.symm.trans hfn)).symm
      exact ⟨cBp, fun j t ht => by
        rw [Tryz.params5] at ht
        have hm : t ∈ [48, 3, 9] := by simpa using Array.mem_of_getElem? ht
        have hall : ([48, 3, 9].all fun u => !Tryz.prog.wantsStandIn u) = true := by kernel_rfl
        exact (show Tryz.prog.wantsStandIn t = false by simpa using List.all_eq_true.1 hall t hm)⟩)
    bKg
#print axioms sheetRead_holds
end Go.Proofs.YtfekapdegmfgaaaGreatDoor
