/- SheetFirst returns true at every input, whatever lies in the Ll memory that fits; what came in reads as it did. The listed library variables are tied to the Jv text (the card). No condition. -/
import Derived.Test.YtfekapdegmfgaaaGreatDoorRows
import Derived.Test.YtfekapdegmfgaaaGreatDoorCards
import Derived.Test.YtfekapdegmfgaaaGreatDoorTie
import Derived.SevenTiedAt
import Derived.LaidLaws
import Derived.Test.YtfekapdegmfgaaaGreatDoorPJSheetFirstG
namespace Go.Proofs.YtfekapdegmfgaaaGreatDoor
open Go.ChangeShapes Go.WideShapes Go.ChangeAt Go.RowKit
open Go.Proofs.KV
open Go.ChangeMaps (open_string shut_string)

theorem trodAll_five {H : Type} {enc : TypeId × Value → H} {P : Program} {w : World} {base : Nat} {spare : Nat → Bool} {held : Bool} {t t' Oh t3 t4 : TypeId} {args : Array Value} {ds : List (DataW H)} {ps : List MemPlace} (h : DataW.TrodAll enc P w base spare held [t, t', Oh, t3, t4] args.toList ds ps) :
    ∃ v v' Lm v3 v4 d d' Ln d3 d4 p p' Lo p3 p4, args = #[v, v', Lm, v3, v4] ∧ ds = [d, d', Ln, d3, d4] ∧ ps = p ++ p' ++ Lo ++ p3 ++ p4 ∧ DataW.Trod enc P w base spare held t v d p ∧ DataW.Trod enc P w base spare held t' v' d' p' ∧ DataW.Trod enc P w base spare held Oh Lm Ln Lo ∧ DataW.Trod enc P w base spare held t3 v3 d3 p3 ∧ DataW.Trod enc P w base spare held t4 v4 d4 p4 := by
  obtain ⟨v, vs, d, ds', p, q, hargs, rfl, rfl, hd, hrest⟩ := trodAll_cons h
  obtain ⟨v', O9, d', Pb, p', q', rfl, rfl, rfl, Fg, Iw⟩ := trodAll_cons hrest
  obtain ⟨Lm, Pd, Ln, ds''', Lo, q'', rfl, rfl, rfl, Mf, H3⟩ := trodAll_cons Iw
  obtain ⟨v3, vs3, d3, ds3, p3, q3, rfl, rfl, rfl, J5, Iy⟩ := trodAll_cons H3
  obtain ⟨v4, vs4, d4, ds4, p4, q4, rfl, rfl, rfl, J7, Iz⟩ := trodAll_cons Iy
  obtain ⟨rfl, rfl, rfl⟩ := trodAll_nil Iz
  exact ⟨v, v', Lm, v3, v4, d, d', Ln, d3, d4, p, p', Lo, p3, p4, by cases args; simp_all, rfl, by simp, hd, Fg, Mf, J5, J7⟩
theorem ownKnobT : ownKnob Tryz.prog.godebug = none := by kernel_rfl
theorem cells5T : Tryz.prog.cellsOf 5 = 1 := by kernel_rfl
theorem laidOutT : laidOutB Tryz.prog = true := by kernel_rfl

set_option maxRecDepth 100000 in
theorem first_lifted (os : Os) (started : os.Started) (H : Type) (enc : TypeId × Value → H) :
    ReturnsInHanded {} Tryz.checked os 9 .any (fun w args => (Rows.sheetFirstSpec.pre enc Tryz.prog Tryz.f9 Rows.sheetFirstRow.domain false w args ∧ laidMetH Tryz.prog Rows.sheetFirstRow.laid w) ∧ sizedMet enc Tryz.prog Tryz.f9 (OpenSpec.ofChange Rows.sheetFirstSpec) false w args)
      (Rows.sheetFirstSpec.post enc Tryz.prog Tryz.f9 false true false false) := by
  refine aLz (C := Tryz.checked) (X := fun w _ => laidMetH Tryz.prog Rows.sheetFirstRow.laid w) (fun _ _ _ hh h => h.of_heap hh) ownKnobT started (by kernel_rfl) Tryz.func9
    (ChangeSpec.witness_shaped (enc := enc) (C := Tryz.checked) (os := os) (X := fun w _ => laidMetH Tryz.prog Rows.sheetFirstRow.laid w) false (World.laidAll Tryz.prog os Rows.sheetFirstRow.laid) #[.slice none 0 0, .int .i64 0, .int .i64 0, .int .i64 0, .string ⟨#[]⟩] 8 (World.laidAll_os _ _ _)
      (World.shaped_of_ZipB (by kernel_rfl) (by kernel_rfl)) (by kernel_rfl) (by kernel_rfl) (by kernel_rfl)
      (by rw [MakeChecks.laidMetH_plain _ _ _ (by kernel_rfl)]; exact laidMet_laidAll _ (by kernel_rfl) (by kernel_rfl))) ?_
  intro W base args ds gs before hval0 hW hL hsh
  have hval : ∀ (j : Nat) t v, Tryz.f9.params[j]? = some t → args[j]? = some v → Value.okWide Tryz.prog W .any base t v := hval0
  have hW' := hW
  obtain ⟨p, q, hA0, hV, rfl, _, _⟩ := hW
  have hA : DataW.TrodAll enc Tryz.prog W 0 (fun _ => true) true Tryz.f9.params.toList args.toList ds p := hA0
  have hA2 := hA
  rw [Tryz.params9] at hA hval
  obtain ⟨v0, v1, v2, v3, v4, d0, d1, d2, d3, d4, p0, p1, p2, p3, p4, rfl, rfl, rfl, h0, h1, h2, h3, h4⟩ := trodAll_five hA
  obtain ⟨rfl, rfl⟩ := trodVars_none hV
  obtain ⟨l0, hl0, hlw0, hll0⟩ := aWd Tryz.underlying48 Tryz.underlying5 cells5T (hval 0 48 v0 rfl rfl) h0
  obtain ⟨n, rfl, rfl, rfl, wn⟩ := open_int Tryz.underlying3 (hval 1 3 v1 rfl rfl) h1
  obtain ⟨g, rfl, rfl, rfl, wg⟩ := open_int Tryz.underlying3 (hval 2 3 v2 rfl rfl) h2
  obtain ⟨b, rfl, rfl, rfl, wb⟩ := open_int Tryz.underlying3 (hval 3 3 v3 rfl rfl) h3
  obtain ⟨⟨⟨s⟩⟩, rfl, rfl, rfl, ws⟩ := open_string Tryz.underlying9 (hval 4 9 v4 rfl rfl) h4
  simp only [List.append_nil] at hW' hA2
  refine (FV.law (cEd hL hsh) (args := [.p (.sl l0.length (l0.map dW)), .p (aB n), .p (aB g), .p (aB b), .p (aD s)]) (us := [v0, .int .i64 n, .int .i64 g, .int .i64 b, .string ⟨s.toArray⟩]) (fun base => bSz l0 n g b s (fun _ => cBo)) rfl (.cons _ _ _ _ (.p _ _ hl0) (.cons _ _ _ _ (.p _ _ (.v _)) (.cons _ _ _ _ (.p _ _ (.v _)) (.cons _ _ _ _ (.p _ _ (.v _)) (.cons _ _ _ _ (.p _ _ (.v _)) .nil)))))).mono fun e W' ⟨he, hbw⟩ => ?_
  subst he
  exact ⟨_, rfl, ⟨_, _, _, [], _, [], hW', trodAll_mk1 (shut_bool Tryz.underlying4 _), sA laidOutT hbw (by kernel_rfl) hA2 (fun x hx => by simpa using hW'.lt x hx), rfl, hbw.frame _, fun h => by cases h⟩⟩

theorem firstName : Tryz.checked.prog.funcNamed Rows.sheetFirstRow.func = some 9 := by kernel_rfl
theorem Pe : (Rows.sheetFirstRow.wf (OpenSpec.ofChange Rows.sheetFirstSpec)) = true := by kernel_rfl
theorem sC2 : laidOutB Tryz.checked.prog = true := laidOutT
theorem sC3 : mapsRowed Tryz.checked.prog = true := by kernel_rfl
theorem sC4 : (Rows.sheetFirstRow.inPlace == Tryz.checked.prog.inPlace 9) = true := by kernel_rfl
theorem sC5 : (Rows.sheetFirstRow.unfollowed == Tryz.checked.prog.unfollowed 9) = true := by kernel_rfl
theorem sC6 : (Rows.sheetFirstRow.recurses == Tryz.checked.prog.recurses 9) = true := by kernel_rfl
theorem sC7 : (Rows.sheetFirstRow.named == Tryz.checked.prog.varsNamed 9) = true := by kernel_rfl
/-- in parts, so that each needs less room -/
theorem firstClosed : joinedFacts Tryz.checked.prog 9 Tryz.f9 Rows.sheetFirstSpec Rows.sheetFirstRow = true := by
  unfold joinedFacts
  rw [Pe, sC2, sC3, sC4, sC5, sC6, sC7]
  kernel_rfl

theorem first_holds : Rows.SheetFirstSaid :=
  OpenClaim.holds_of_wide 9 Tryz.f9 rfl rfl rfl rfl rfl rfl rfl ⟨rfl, rfl, rfl, rfl, rfl⟩ rfl rfl rfl rfl rfl firstName Tryz.func9 firstClosed
    (of_decide_eq_true (by kernel_rfl)) (by unfold Func.isWrapper; first | (rw [if_pos (by decide +kernel)]; kernel_rfl) | (rw [if_neg (by decide +kernel)]; exact ⟨rfl, rfl⟩))
    (fun os started H enc _ => first_lifted os started H enc)

theorem sheetFirst_holds : Rows.SheetFirstCardSaid :=
  Claim7.holds_tied_plain_at .later [] [.data, .data, .data, .data, .sentinel, .sentinel, .pinned] true (true, "fc3a213d7e944039130072f9d0424f91fbc30e25d597438fa960a8a20543f75c") true first_holds (fun _ h => by cases h) (by kernel_rfl) (fun _ h => by cases h) sheetFirst_row_tie rfl ⟨rfl, rfl⟩ cEb rfl
    (fun f fn hf hfn => by
      obtain rfl : f = 9 := Option.some.inj (firstName.symm.trans hf) |>.symm
      obtain rfl : fn = Tryz.f9 := (Option.some.inj (Tryz.func9.symm.trans hfn)).symm
      exact ⟨cCf, fun j t ht => by
        rw [Tryz.params9] at ht
        have hm : t ∈ [48, 3, 3, 3, 9] := by simpa using Array.mem_of_getElem? ht
        have hall : ([48, 3, 3, 3, 9].all fun u => !Tryz.prog.wantsStandIn u) = true := by kernel_rfl
        exact (show Tryz.prog.wantsStandIn t = false by simpa using List.all_eq_true.1 hall t hm)⟩)
    bDv
#print axioms sheetFirst_holds
end Go.Proofs.YtfekapdegmfgaaaGreatDoor
