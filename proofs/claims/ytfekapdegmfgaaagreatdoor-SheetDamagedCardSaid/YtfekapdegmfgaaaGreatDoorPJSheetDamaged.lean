/- SheetDamaged returns true at every input, whatever lies in the K7 memory that fits; what came in reads as it did. The listed library variables are tied to the Jo text (the card). No condition. -/
import Derived.Test.YtfekapdegmfgaaaGreatDoorRows
import Derived.Test.YtfekapdegmfgaaaGreatDoorCards
import Derived.Test.YtfekapdegmfgaaaGreatDoorTie
import Derived.SevenTiedAt
import Derived.LaidLaws
import Derived.Test.YtfekapdegmfgaaaGreatDoorPJSheetDamagedG
namespace Go.Proofs.YtfekapdegmfgaaaGreatDoor
open Go.ChangeShapes Go.WideShapes Go.ChangeAt Go.RowKit
open Go.Proofs.KV
open Go.ChangeMaps (open_string shut_string)

theorem ownKnobT : ownKnob Tryz.prog.godebug = none := by kernel_rfl
theorem cells5T : Tryz.prog.cellsOf 5 = 1 := by kernel_rfl
theorem laidOutT : laidOutB Tryz.prog = true := by kernel_rfl

set_option maxRecDepth 100000 in
theorem damaged_lifted (os : Os) (started : os.Started) (H : Type) (enc : TypeId × Value → H) :
    ReturnsInHanded {} Tryz.checked os 6 .any (fun w args => (Rows.sheetDamagedSpec.pre enc Tryz.prog Tryz.f6 Rows.sheetDamagedRow.domain false w args ∧ laidMetH Tryz.prog Rows.sheetDamagedRow.laid w) ∧ sizedMet enc Tryz.prog Tryz.f6 (OpenSpec.ofChange Rows.sheetDamagedSpec) false w args)
      (Rows.sheetDamagedSpec.post enc Tryz.prog Tryz.f6 false true false false) := by
  refine aLe (C := Tryz.checked) (X := fun w _ => laidMetH Tryz.prog Rows.sheetDamagedRow.laid w) (fun _ _ _ hh h => h.of_heap hh) ownKnobT started (by kernel_rfl) Tryz.func6
    (ChangeSpec.witness_shaped (enc := enc) (C := Tryz.checked) (os := os) (X := fun w _ => laidMetH Tryz.prog Rows.sheetDamagedRow.laid w) false (World.laidAll Tryz.prog os Rows.sheetDamagedRow.laid) #[.slice none 0 0, .int .i64 0, .int .i64 0, .int .u8 0] 8 (World.laidAll_os _ _ _)
      (World.shaped_of_ZipB (by kernel_rfl) (by kernel_rfl)) (by kernel_rfl) (by kernel_rfl) (by kernel_rfl)
      (by rw [MakeChecks.laidMetH_plain _ _ _ (by kernel_rfl)]; exact laidMet_laidAll _ (by kernel_rfl) (by kernel_rfl))) ?_
  intro W base args ds gs before hval0 hW hL hsh
  have hval : ∀ (j : Nat) t v, Tryz.f6.params[j]? = some t → args[j]? = some v → Value.okWide Tryz.prog W .any base t v := hval0
  have hW' := hW
  obtain ⟨p, q, hA0, hV, rfl, _, _⟩ := hW
  have hA : DataW.TrodAll enc Tryz.prog W 0 (fun _ => true) true Tryz.f6.params.toList args.toList ds p := hA0
  have hA2 := hA
  rw [Tryz.params6] at hA hval
  obtain ⟨v0, v1, v2, v3, d0, d1, d2, d3, p0, p1, p2, p3, rfl, rfl, rfl, h0, h1, h2, h3⟩ := trodAll_four hA
  obtain ⟨rfl, rfl⟩ := trodVars_none hV
  obtain ⟨l0, hl0, hlw0, hll0⟩ := aUt Tryz.underlying48 Tryz.underlying5 cells5T (hval 0 48 v0 rfl rfl) h0
  obtain ⟨n, rfl, rfl, rfl, wn⟩ := open_int Tryz.underlying3 (hval 1 3 v1 rfl rfl) h1
  obtain ⟨g, rfl, rfl, rfl, wg⟩ := open_int Tryz.underlying3 (hval 2 3 v2 rfl rfl) h2
  obtain ⟨b, rfl, rfl, rfl, wb⟩ := open_int Tryz.underlying5 (hval 3 5 v3 rfl rfl) h3
  have hb : 0 ≤ b ∧ b ≤ 255 := by
    have e1 : IntKind.u8.min = 0 := by decide
    have e2 : IntKind.u8.max = 255 := by decide
    simpa [Lit.wf, e1, e2] using wb
  simp only [List.append_nil] at hW' hA2
  refine (FV.law (cCh hL hsh) (args := [.p (.sl l0.length (l0.map dR)), .p (aB n), .p (aB g), .p (.v (.int .u8 b))]) (us := [v0, .int .i64 n, .int .i64 g, .int .u8 b]) (fun base => bRf l0 n g b hb (fun _ => bXj)) rfl (.cons _ _ _ _ (.p _ _ hl0) (.cons _ _ _ _ (.p _ _ (.v _)) (.cons _ _ _ _ (.p _ _ (.v _)) (.cons _ _ _ _ (.p _ _ (.v _)) .nil))))).mono fun e W' ⟨he, hbw⟩ => ?_
  subst he
  exact ⟨_, rfl, ⟨_, _, _, [], _, [], hW', trodAll_mk1 (shut_bool Tryz.underlying4 _), rD laidOutT hbw (by kernel_rfl) hA2 (fun x hx => by simpa using hW'.lt x hx), rfl, hbw.frame _, fun h => by cases h⟩⟩

theorem damagedName : Tryz.checked.prog.funcNamed Rows.sheetDamagedRow.func = some 6 := by kernel_rfl
theorem Ot : (Rows.sheetDamagedRow.wf (OpenSpec.ofChange Rows.sheetDamagedSpec)) = true := by kernel_rfl
theorem sC2 : laidOutB Tryz.checked.prog = true := laidOutT
theorem sC3 : mapsRowed Tryz.checked.prog = true := by kernel_rfl
theorem sC4 : (Rows.sheetDamagedRow.inPlace == Tryz.checked.prog.inPlace 6) = true := by kernel_rfl
theorem sC5 : (Rows.sheetDamagedRow.unfollowed == Tryz.checked.prog.unfollowed 6) = true := by kernel_rfl
theorem sC6 : (Rows.sheetDamagedRow.recurses == Tryz.checked.prog.recurses 6) = true := by kernel_rfl
theorem sC7 : (Rows.sheetDamagedRow.named == Tryz.checked.prog.varsNamed 6) = true := by kernel_rfl
/-- in parts, so that each needs less room -/
theorem damagedClosed : joinedFacts Tryz.checked.prog 6 Tryz.f6 Rows.sheetDamagedSpec Rows.sheetDamagedRow = true := by
  unfold joinedFacts
  rw [Ot, sC2, sC3, sC4, sC5, sC6, sC7]
  kernel_rfl

theorem damaged_holds : Rows.SheetDamagedSaid :=
  OpenClaim.holds_of_wide 6 Tryz.f6 rfl rfl rfl rfl rfl rfl rfl ⟨rfl, rfl, rfl, rfl, rfl⟩ rfl rfl rfl rfl rfl damagedName Tryz.func6 damagedClosed
    (of_decide_eq_true (by kernel_rfl)) (by unfold Func.isWrapper; first | (rw [if_pos (by decide +kernel)]; kernel_rfl) | (rw [if_neg (by decide +kernel)]; exact ⟨rfl, rfl⟩))
    (fun os started H enc _ => damaged_lifted os started H enc)

theorem sheetDamaged_holds : Rows.SheetDamagedCardSaid :=
  Claim7.holds_tied_plain_at .later [] [.data, .data, .data, .data, .sentinel, .sentinel, .pinned] true (true, "fc3a213d7e944039130072f9d0424f91fbc30e25d597438fa960a8a20543f75c") true damaged_holds (fun _ h => by cases h) (by kernel_rfl) (fun _ h => by cases h) sheetDamaged_row_tie rfl ⟨rfl, rfl⟩ cCf rfl
    (fun f fn hf hfn => by
      obtain rfl : f = 6 := Option.some.inj (damagedName.symm.trans hf) |>.symm
      obtain rfl : fn = Tryz.f6 := (Option.some.inj (Tryz.func6.symm.trans hfn)).symm
      exact ⟨cAh, fun j t ht => by
        rw [Tryz.params6] at ht
        have hm : t ∈ [48, 3, 3, 5] := by simpa using Array.mem_of_getElem? ht
        have hall : ([48, 3, 3, 5].all fun u => !Tryz.prog.wantsStandIn u) = true := by kernel_rfl
        exact (show Tryz.prog.wantsStandIn t = false by simpa using List.all_eq_true.1 hall t hm)⟩)
    aLd
#print axioms sheetDamaged_holds
end Go.Proofs.YtfekapdegmfgaaaGreatDoor
