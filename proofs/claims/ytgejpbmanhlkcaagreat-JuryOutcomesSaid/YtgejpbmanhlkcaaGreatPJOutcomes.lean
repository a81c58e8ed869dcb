/- JuryOutcomes returns true at every input; what came in reads as it did. No condition. -/
import Derived.Test.YtgejpbmanhlkcaaGreatRows
import Derived.Test.YtgejpbmanhlkcaaGreatPJOutcomesF
namespace Go.Proofs.YtgejpbmanhlkcaaGreat
open Go.ChangeShapes Go.WideShapes Go.ChangeAt Go.RowKit
open Go.Proofs.KV

theorem trodAll_five {H : Type} {enc : TypeId × Value → H} {P : Program} {w : World} {base : Nat} {spare : Nat → Bool} {held : Bool} {t t' U1 t3 t4 : TypeId} {args : Array Value} {ds : List (DataW H)} {ps : List MemPlace} (h : DataW.TrodAll enc P w base spare held [t, t', U1, t3, t4] args.toList ds ps) :
    ∃ v v' Ra v3 v4 d d' Rb d3 d4 p p' Rc p3 p4, args = #[v, v', Ra, v3, v4] ∧ ds = [d, d', Rb, d3, d4] ∧ ps = p ++ p' ++ Rc ++ p3 ++ p4 ∧ DataW.Trod enc P w base spare held t v d p ∧ DataW.Trod enc P w base spare held t' v' d' p' ∧ DataW.Trod enc P w base spare held U1 Ra Rb Rc ∧ DataW.Trod enc P w base spare held t3 v3 d3 p3 ∧ DataW.Trod enc P w base spare held t4 v4 d4 p4 := by
  obtain ⟨v, vs, d, ds', p, q, hargs, rfl, rfl, hd, hrest⟩ := trodAll_cons h
  obtain ⟨v', vs', d', V0, p', q', rfl, rfl, rfl, Oq, M4⟩ := trodAll_cons hrest
  obtain ⟨Ra, V1, Rb, ds''', Rc, q'', rfl, rfl, rfl, R6, Kw⟩ := trodAll_cons M4
  obtain ⟨v3, vs3, d3, ds3, p3, q3, rfl, rfl, rfl, R7, M5⟩ := trodAll_cons Kw
  obtain ⟨v4, vs4, d4, ds4, p4, q4, rfl, rfl, rfl, V2, M6⟩ := trodAll_cons M5
  obtain ⟨rfl, rfl, rfl⟩ := trodAll_nil M6
  exact ⟨v, v', Ra, v3, v4, d, d', Rb, d3, d4, p, p', Rc, p3, p4, by cases args; simp_all, rfl, by simp, hd, Oq, R6, R7, V2⟩
theorem ownKnobT : ownKnob Tryz.prog.godebug = none := by kernel_rfl
theorem laidOutT : laidOutB Tryz.prog = true := by kernel_rfl
theorem cells3T : Tryz.prog.cellsOf 3 = 1 := by kernel_rfl
theorem cells23T : Tryz.prog.cellsOf 23 = 1 := by kernel_rfl
theorem cells24T : Tryz.prog.cellsOf 24 = 1 := by kernel_rfl
theorem cells26T : Tryz.prog.cellsOf 26 = 3 := by kernel_rfl
theorem cells31T : Tryz.prog.cellsOf 31 = 2 := by kernel_rfl
theorem cells44T : Tryz.prog.cellsOf 44 = 6 := by kernel_rfl
theorem cells42T : Tryz.prog.cellsOf 42 = 1 := by kernel_rfl
theorem fs31 : aIn Tryz.prog #[{ name := "Bib", type := 3, offset := 0, embedded := false, tag := "", pkgPath := "", byteOffset := 0 }, { name := "Time", type := 3, offset := 1, embedded := false, tag := "", pkgPath := "", byteOffset := 8 }] := by
  intro j f h
  match j, h with
  | 0, h => cases h; exact ⟨rfl, cells3T, Tryz.underlying3⟩
  | 1, h => cases h; exact ⟨rfl, cells3T, Tryz.underlying3⟩
  | n + 2, h => simp at h
theorem fs44 : aIn Tryz.prog #[{ name := "Number", type := 3, offset := 0, embedded := false, tag := "", pkgPath := "", byteOffset := 0 }, { name := "Kind", type := 42, offset := 1, embedded := false, tag := "", pkgPath := "", byteOffset := 8 }, { name := "Minute", type := 3, offset := 2, embedded := false, tag := "", pkgPath := "", byteOffset := 16 }, { name := "Bib", type := 3, offset := 3, embedded := false, tag := "", pkgPath := "", byteOffset := 24 }, { name := "Much", type := 3, offset := 4, embedded := false, tag := "", pkgPath := "", byteOffset := 32 }, { name := "About", type := 3, offset := 5, embedded := false, tag := "", pkgPath := "", byteOffset := 40 }] := by
  intro j f h
  match j, h with
  | 0, h => cases h; exact ⟨rfl, cells3T, Tryz.underlying3⟩
  | 1, h => cases h; exact ⟨rfl, cells42T, Tryz.underlying42⟩
  | 2, h => cases h; exact ⟨rfl, cells3T, Tryz.underlying3⟩
  | 3, h => cases h; exact ⟨rfl, cells3T, Tryz.underlying3⟩
  | 4, h => cases h; exact ⟨rfl, cells3T, Tryz.underlying3⟩
  | 5, h => cases h; exact ⟨rfl, cells3T, Tryz.underlying3⟩
  | n + 6, h => simp at h

set_option maxRecDepth 100000 in
theorem outcomes_lifted (os : Os) (started : os.Started) (H : Type) (enc : TypeId × Value → H) :
    ReturnsInHanded {} Tryz.checked os 12 .any (Rows.juryOutcomesSpec.pre6 enc Tryz.prog Tryz.f12 Rows.juryOutcomesRow.domain false) (Rows.juryOutcomesSpec.post enc Tryz.prog Tryz.f12 false true false false) := by
  refine returnsInHanded_of_change (C := Tryz.checked) ownKnobT started (by kernel_rfl) Tryz.func12
    (ChangeSpec.witness6 (enc := enc) (C := Tryz.checked) false ⟨#[], #[.agg #[.int .i64 0, .slice none 0 0, .slice none 0 0], .slice none 0 0, .int .i64 0, .int .i64 0, .int .i64 0], []⟩ 8 (by kernel_rfl) (by kernel_rfl) (by kernel_rfl) (by kernel_rfl)) ?_
  intro W base args ds gs before hval0 hW _ _
  have hval : ∀ (j : Nat) t v, Tryz.f12.params[j]? = some t → args[j]? = some v → Value.okWide Tryz.prog W .any base t v := hval0
  have hW' := hW
  obtain ⟨p, q, hA0, hV, rfl, _, _⟩ := hW
  have hA : DataW.TrodAll enc Tryz.prog W 0 (fun _ => true) true Tryz.f12.params.toList args.toList ds p := hA0
  have hA2 := hA
  rw [Tryz.params12] at hA hval
  obtain ⟨v0, v1, v2, v3, v4, d0, d1, d2, d3, d4, p0, p1, p2, p3, p4, rfl, rfl, rfl, h0, h1, h2, h3, h4⟩ := trodAll_five hA
  obtain ⟨rfl, rfl⟩ := trodVars_none hV
  clear hA0 hval0
  simp only [List.append_nil] at hW' hA2
  obtain ⟨dl0, sk0, dc0, wl0, us0, ud0, hl0⟩ := bPx Tryz.underlying26 Tryz.underlying3 Tryz.underlying23 Tryz.underlying24 Tryz.underlying31 Tryz.underlying44 rfl rfl cells31T cells44T fs31 fs44 cells3T cells23T cells24T cells26T rfl rfl rfl rfl rfl rfl (hval 0 _ v0 rfl rfl) h0
  obtain ⟨l1, hl1, hlw1, hll1⟩ := bDc Tryz.underlying33 Tryz.underlying3 cells3T (hval 1 _ v1 rfl rfl) h1
  have Ik : ∀ n ∈ l1, inR n := fun n hn => aLo (hlw1 n hn)
  obtain ⟨b2, rfl, rfl, rfl, wb2⟩ := open_int Tryz.underlying3 (hval 2 3 v2 rfl rfl) h2
  have Gv : inR b2 := aLo wb2
  obtain ⟨b3, rfl, rfl, rfl, wb3⟩ := open_int Tryz.underlying3 (hval 3 3 v3 rfl rfl) h3
  have V3 : inR b3 := aLo wb3
  obtain ⟨b4, rfl, rfl, rfl, wb4⟩ := open_int Tryz.underlying3 (hval 4 3 v4 rfl rfl) h4
  have V4 : inR b4 := aLo wb4
  refine (FV.law (args := [.p (.agg (bC dl0 sk0 dc0)), .p (aF l1), .p (aB b2), .p (aB b3), .p (aB b4)]) (us := [v0, v1, .int .i64 b2, .int .i64 b3, .int .i64 b4]) (fun base => cDw (base := base) bVd dl0 sk0 dc0 l1 b2 b3 b4 us0 ud0 Ik Gv V3 V4) rfl (.cons _ _ _ _ (.p _ _ hl0) (.cons _ _ _ _ (.p _ _ hl1) (.cons _ _ _ _ (.p _ _ (.v _)) (.cons _ _ _ _ (.p _ _ (.v _)) (.cons _ _ _ _ (.p _ _ (.v _)) .nil)))))).mono fun e W' ⟨he, hbw⟩ => ?_
  subst he
  exact ⟨_, rfl, ⟨_, _, _, [], _, [], hW', trodAll_mk1 (shut_bool Tryz.underlying4 _), wK laidOutT hbw (by kernel_rfl) hA2 (fun x hx => by simpa using hW'.lt x hx), rfl, hbw.frame _, fun h => by cases h⟩⟩

theorem outcomesName : Tryz.checked.prog.funcNamed Rows.juryOutcomesRow.func = some 12 := by kernel_rfl
theorem V5 : (Rows.juryOutcomesRow.wf (OpenSpec.ofChange Rows.juryOutcomesSpec)) = true := by kernel_rfl
theorem sC2 : laidOutB Tryz.checked.prog = true := laidOutT
theorem sC3 : mapsRowed Tryz.checked.prog = true := by kernel_rfl
theorem sC4 : (Rows.juryOutcomesRow.inPlace == Tryz.checked.prog.inPlace 12) = true := by kernel_rfl
theorem sC5 : (Rows.juryOutcomesRow.unfollowed == Tryz.checked.prog.unfollowed 12) = true := by kernel_rfl
theorem sC6 : (Rows.juryOutcomesRow.recurses == Tryz.checked.prog.recurses 12) = true := by kernel_rfl
theorem sC7 : (Rows.juryOutcomesRow.named == Tryz.checked.prog.varsNamed 12) = true := by kernel_rfl
/-- in parts, so that each needs less room -/
theorem outcomesClosed : joinedFacts Tryz.checked.prog 12 Tryz.f12 Rows.juryOutcomesSpec Rows.juryOutcomesRow = true := by
  unfold joinedFacts
  rw [V5, sC2, sC3, sC4, sC5, sC6, sC7]
  kernel_rfl

theorem juryOutcomes_holds : Rows.JuryOutcomesSaid :=
  OpenClaim.holds_of_wide 12 Tryz.f12 rfl rfl rfl rfl rfl rfl rfl ⟨rfl, rfl, rfl, rfl, rfl⟩ rfl rfl rfl rfl rfl outcomesName Tryz.func12 outcomesClosed
    (of_decide_eq_true (by kernel_rfl)) (by unfold Func.isWrapper; first | (rw [if_pos (by decide +kernel)]; kernel_rfl) | (rw [if_neg (by decide +kernel)]; exact ⟨rfl, rfl⟩))
    (fun os started H enc _ => outcomes_lifted os started H enc)
#print axioms juryOutcomes_holds
end Go.Proofs.YtgejpbmanhlkcaaGreat
