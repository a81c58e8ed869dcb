/-
  No cell of these rows narrows 'for every input' (looked for: loops, veiled, ifaces, maps, wideKeys, modest, calm, conditions, laid).
  DERIVED. THE GIVEN ROWS OF THIS SEAT. 13 by the template 'for every input the law returns true; each argument reads behind the call as it read before'; 0 by the template 'total and deterministic' (their statements: YtgejpbmanhlkcaaGreatTotals.lean).
  GIVEN WITH THE SEED: the statements are not yours to turn. If you find one false, say at which input.
  Laid BY PROGRAM, IN A SANDBOX (cutbox-rows.mjs): the forced cells as the released guide's own fill.sh prints them over the translation 0fac2ff402f40ba8… (all of the seat's roots in one cut). By AI agents, Wed Nov 11 2026. No macro, syntax, notation, axiom, sorry.
-/
import Derived.Test.YtgejpbmanhlkcaaGreatChecked
import GoSem.Claim
import GoSem.ClaimJoined
import GoSem.ClaimMapViews
import Derived.JoinedTies
import Derived.KernelRfl
namespace Go.Proofs.YtgejpbmanhlkcaaGreat
/- THE CELL 'sum', in the pinned program and in every row, IS THE sha256 OF THE DUMP (.gsa) THAT YtgejpbmanhlkcaaGreatProg.lean LOADS. Nothing in Lean hashes anything: it is a label: what it is worth is what the hold of that sum in a sandbox is worth. -/
noncomputable def Tryz.pinned : Pinned := { name := "ytgejpbmanhlkcaagreat", sum := "0fac2ff402f40ba8359dd210e95105f82b52ee4fc7f3f0d9c52abd325a572d57", checked := Tryz.checked }
namespace Rows
def none {H : Type} : Left H := { results := [], args := [] }

/-- 'klisterlaw09.JuryMore': WHATEVER THE INPUT: true; the input reads as it did. -/
def juryMoreSpec : ChangeSpec := { name := "juryMore", fn := fun _ => fun
  | [d1, d2, d3, d4] => { results := [.lit (.bool true)], args := [d1, d2, d3, d4] }
  | _ => none }
def juryMoreRow : OpenClaim := { program := "ytgejpbmanhlkcaagreat", sum := "0fac2ff402f40ba8359dd210e95105f82b52ee4fc7f3f0d9c52abd325a572d57", func := "klister/klisterlaw09.JuryMore", spec := "juryMore", unfollowed := true, recurses := true, apart := false }
def JuryMoreSaid : Prop := juryMoreRow.holds Tryz.pinned (OpenSpec.ofChange juryMoreSpec)

/-- ITS FALSE NEIGHBOUR: 'it returns false'. Refute it at one input. -/
def juryMoreWrong : ChangeSpec := { name := "juryMore", fn := fun _ => fun
  | [d1, d2, d3, d4] => { results := [.lit (.bool false)], args := [d1, d2, d3, d4] }
  | _ => none }
def JuryMoreWrongFalsely : Prop := juryMoreRow.holds Tryz.pinned (OpenSpec.ofChange juryMoreWrong)

/-- 'klisterlaw09.JuryMoved': WHATEVER THE INPUT: true; the input reads as it did. -/
def juryMovedSpec : ChangeSpec := { name := "juryMoved", fn := fun _ => fun
  | [d1, d2] => { results := [.lit (.bool true)], args := [d1, d2] }
  | _ => none }
def juryMovedRow : OpenClaim := { program := "ytgejpbmanhlkcaagreat", sum := "0fac2ff402f40ba8359dd210e95105f82b52ee4fc7f3f0d9c52abd325a572d57", func := "klister/klisterlaw09.JuryMoved", spec := "juryMoved", unfollowed := true, recurses := true, apart := false }
def JuryMovedSaid : Prop := juryMovedRow.holds Tryz.pinned (OpenSpec.ofChange juryMovedSpec)

/-- ITS FALSE NEIGHBOUR: 'it returns false'. Refute it at one input. -/
def juryMovedWrong : ChangeSpec := { name := "juryMoved", fn := fun _ => fun
  | [d1, d2] => { results := [.lit (.bool false)], args := [d1, d2] }
  | _ => none }
def JuryMovedWrongFalsely : Prop := juryMovedRow.holds Tryz.pinned (OpenSpec.ofChange juryMovedWrong)

/-- 'klisterlaw09.JuryFirsts': WHATEVER THE INPUT: true; the input reads as it did. -/
def juryFirstsSpec : ChangeSpec := { name := "juryFirsts", fn := fun _ => fun
  | [d1, d2] => { results := [.lit (.bool true)], args := [d1, d2] }
  | _ => none }
def juryFirstsRow : OpenClaim := { program := "ytgejpbmanhlkcaagreat", sum := "0fac2ff402f40ba8359dd210e95105f82b52ee4fc7f3f0d9c52abd325a572d57", func := "klister/klisterlaw09.JuryFirsts", spec := "juryFirsts", unfollowed := true, recurses := true, apart := false }
def JuryFirstsSaid : Prop := juryFirstsRow.holds Tryz.pinned (OpenSpec.ofChange juryFirstsSpec)

/-- ITS FALSE NEIGHBOUR: 'it returns false'. Refute it at one input. -/
def juryFirstsWrong : ChangeSpec := { name := "juryFirsts", fn := fun _ => fun
  | [d1, d2] => { results := [.lit (.bool false)], args := [d1, d2] }
  | _ => none }
def JuryFirstsWrongFalsely : Prop := juryFirstsRow.holds Tryz.pinned (OpenSpec.ofChange juryFirstsWrong)

/-- 'klisterlaw09.JuryRecords': WHATEVER THE INPUT: true; the input reads as it did. -/
def juryRecordsSpec : ChangeSpec := { name := "juryRecords", fn := fun _ => fun
  | [d1, d2] => { results := [.lit (.bool true)], args := [d1, d2] }
  | _ => none }
def juryRecordsRow : OpenClaim := { program := "ytgejpbmanhlkcaagreat", sum := "0fac2ff402f40ba8359dd210e95105f82b52ee4fc7f3f0d9c52abd325a572d57", func := "klister/klisterlaw09.JuryRecords", spec := "juryRecords", unfollowed := true, recurses := true, apart := false }
def JuryRecordsSaid : Prop := juryRecordsRow.holds Tryz.pinned (OpenSpec.ofChange juryRecordsSpec)

/-- ITS FALSE NEIGHBOUR: 'it returns false'. Refute it at one input. -/
def juryRecordsWrong : ChangeSpec := { name := "juryRecords", fn := fun _ => fun
  | [d1, d2] => { results := [.lit (.bool false)], args := [d1, d2] }
  | _ => none }
def JuryRecordsWrongFalsely : Prop := juryRecordsRow.holds Tryz.pinned (OpenSpec.ofChange juryRecordsWrong)

/-- 'klisterlaw09.JuryCancelled': WHATEVER THE INPUT: true; the input reads as it did. -/
def juryCancelledSpec : ChangeSpec := { name := "juryCancelled", fn := fun _ => fun
  | [d1, d2] => { results := [.lit (.bool true)], args := [d1, d2] }
  | _ => none }
def juryCancelledRow : OpenClaim := { program := "ytgejpbmanhlkcaagreat", sum := "0fac2ff402f40ba8359dd210e95105f82b52ee4fc7f3f0d9c52abd325a572d57", func := "klister/klisterlaw09.JuryCancelled", spec := "juryCancelled", unfollowed := true, recurses := true, apart := false }
def JuryCancelledSaid : Prop := juryCancelledRow.holds Tryz.pinned (OpenSpec.ofChange juryCancelledSpec)

/-- ITS FALSE NEIGHBOUR: 'it returns false'. Refute it at one input. -/
def juryCancelledWrong : ChangeSpec := { name := "juryCancelled", fn := fun _ => fun
  | [d1, d2] => { results := [.lit (.bool false)], args := [d1, d2] }
  | _ => none }
def JuryCancelledWrongFalsely : Prop := juryCancelledRow.holds Tryz.pinned (OpenSpec.ofChange juryCancelledWrong)

/-- 'klisterlaw09.JuryRuled': WHATEVER THE INPUT: true; the input reads as it did. -/
def juryRuledSpec : ChangeSpec := { name := "juryRuled", fn := fun _ => fun
  | [d1, d2, d3] => { results := [.lit (.bool true)], args := [d1, d2, d3] }
  | _ => none }
def juryRuledRow : OpenClaim := { program := "ytgejpbmanhlkcaagreat", sum := "0fac2ff402f40ba8359dd210e95105f82b52ee4fc7f3f0d9c52abd325a572d57", func := "klister/klisterlaw09.JuryRuled", spec := "juryRuled", unfollowed := true, recurses := true, apart := false }
def JuryRuledSaid : Prop := juryRuledRow.holds Tryz.pinned (OpenSpec.ofChange juryRuledSpec)

/-- ITS FALSE NEIGHBOUR: 'it returns false'. Refute it at one input. -/
def juryRuledWrong : ChangeSpec := { name := "juryRuled", fn := fun _ => fun
  | [d1, d2, d3] => { results := [.lit (.bool false)], args := [d1, d2, d3] }
  | _ => none }
def JuryRuledWrongFalsely : Prop := juryRuledRow.holds Tryz.pinned (OpenSpec.ofChange juryRuledWrong)

/-- 'klisterlaw09.JuryMattered': WHATEVER THE INPUT: true; the input reads as it did. -/
def juryMatteredSpec : ChangeSpec := { name := "juryMattered", fn := fun _ => fun
  | [d1, d2] => { results := [.lit (.bool true)], args := [d1, d2] }
  | _ => none }
def juryMatteredRow : OpenClaim := { program := "ytgejpbmanhlkcaagreat", sum := "0fac2ff402f40ba8359dd210e95105f82b52ee4fc7f3f0d9c52abd325a572d57", func := "klister/klisterlaw09.JuryMattered", spec := "juryMattered", unfollowed := true, recurses := true, apart := false }
def JuryMatteredSaid : Prop := juryMatteredRow.holds Tryz.pinned (OpenSpec.ofChange juryMatteredSpec)

/-- ITS FALSE NEIGHBOUR: 'it returns false'. Refute it at one input. -/
def juryMatteredWrong : ChangeSpec := { name := "juryMattered", fn := fun _ => fun
  | [d1, d2] => { results := [.lit (.bool false)], args := [d1, d2] }
  | _ => none }
def JuryMatteredWrongFalsely : Prop := juryMatteredRow.holds Tryz.pinned (OpenSpec.ofChange juryMatteredWrong)

/-- 'klisterlaw09.JuryAnyOrder': WHATEVER THE INPUT: true; the input reads as it did. -/
def juryAnyOrderSpec : ChangeSpec := { name := "juryAnyOrder", fn := fun _ => fun
  | [d1, d2] => { results := [.lit (.bool true)], args := [d1, d2] }
  | _ => none }
def juryAnyOrderRow : OpenClaim := { program := "ytgejpbmanhlkcaagreat", sum := "0fac2ff402f40ba8359dd210e95105f82b52ee4fc7f3f0d9c52abd325a572d57", func := "klister/klisterlaw09.JuryAnyOrder", spec := "juryAnyOrder", unfollowed := true, recurses := true, apart := false }
def JuryAnyOrderSaid : Prop := juryAnyOrderRow.holds Tryz.pinned (OpenSpec.ofChange juryAnyOrderSpec)

/-- ITS FALSE NEIGHBOUR: 'it returns false'. Refute it at one input. -/
def juryAnyOrderWrong : ChangeSpec := { name := "juryAnyOrder", fn := fun _ => fun
  | [d1, d2] => { results := [.lit (.bool false)], args := [d1, d2] }
  | _ => none }
def JuryAnyOrderWrongFalsely : Prop := juryAnyOrderRow.holds Tryz.pinned (OpenSpec.ofChange juryAnyOrderWrong)

/-- 'klisterlaw09.JuryResults': WHATEVER THE INPUT: true; the input reads as it did. -/
def juryResultsSpec : ChangeSpec := { name := "juryResults", fn := fun _ => fun
  | [d1, d2, d3] => { results := [.lit (.bool true)], args := [d1, d2, d3] }
  | _ => none }
def juryResultsRow : OpenClaim := { program := "ytgejpbmanhlkcaagreat", sum := "0fac2ff402f40ba8359dd210e95105f82b52ee4fc7f3f0d9c52abd325a572d57", func := "klister/klisterlaw09.JuryResults", spec := "juryResults", unfollowed := true, recurses := true, apart := false }
def JuryResultsSaid : Prop := juryResultsRow.holds Tryz.pinned (OpenSpec.ofChange juryResultsSpec)

/-- ITS FALSE NEIGHBOUR: 'it returns false'. Refute it at one input. -/
def juryResultsWrong : ChangeSpec := { name := "juryResults", fn := fun _ => fun
  | [d1, d2, d3] => { results := [.lit (.bool false)], args := [d1, d2, d3] }
  | _ => none }
def JuryResultsWrongFalsely : Prop := juryResultsRow.holds Tryz.pinned (OpenSpec.ofChange juryResultsWrong)

/-- 'klisterlaw09.JuryOutcomes': WHATEVER THE INPUT: true; the input reads as it did. -/
def juryOutcomesSpec : ChangeSpec := { name := "juryOutcomes", fn := fun _ => fun
  | [d1, d2, d3, d4, d5] => { results := [.lit (.bool true)], args := [d1, d2, d3, d4, d5] }
  | _ => none }
def juryOutcomesRow : OpenClaim := { program := "ytgejpbmanhlkcaagreat", sum := "0fac2ff402f40ba8359dd210e95105f82b52ee4fc7f3f0d9c52abd325a572d57", func := "klister/klisterlaw09.JuryOutcomes", spec := "juryOutcomes", unfollowed := true, recurses := true, apart := false }
def JuryOutcomesSaid : Prop := juryOutcomesRow.holds Tryz.pinned (OpenSpec.ofChange juryOutcomesSpec)

/-- ITS FALSE NEIGHBOUR: 'it returns false'. Refute it at one input. -/
def juryOutcomesWrong : ChangeSpec := { name := "juryOutcomes", fn := fun _ => fun
  | [d1, d2, d3, d4, d5] => { results := [.lit (.bool false)], args := [d1, d2, d3, d4, d5] }
  | _ => none }
def JuryOutcomesWrongFalsely : Prop := juryOutcomesRow.holds Tryz.pinned (OpenSpec.ofChange juryOutcomesWrong)

/-- 'klisterlaw09.JuryDecisions': WHATEVER THE INPUT: true; the input reads as it did. -/
def juryDecisionsSpec : ChangeSpec := { name := "juryDecisions", fn := fun _ => fun
  | [d1, d2] => { results := [.lit (.bool true)], args := [d1, d2] }
  | _ => none }
def juryDecisionsRow : OpenClaim := { program := "ytgejpbmanhlkcaagreat", sum := "0fac2ff402f40ba8359dd210e95105f82b52ee4fc7f3f0d9c52abd325a572d57", func := "klister/klisterlaw09.JuryDecisions", spec := "juryDecisions", unfollowed := true, recurses := true, apart := false }
def JuryDecisionsSaid : Prop := juryDecisionsRow.holds Tryz.pinned (OpenSpec.ofChange juryDecisionsSpec)

/-- ITS FALSE NEIGHBOUR: 'it returns false'. Refute it at one input. -/
def juryDecisionsWrong : ChangeSpec := { name := "juryDecisions", fn := fun _ => fun
  | [d1, d2] => { results := [.lit (.bool false)], args := [d1, d2] }
  | _ => none }
def JuryDecisionsWrongFalsely : Prop := juryDecisionsRow.holds Tryz.pinned (OpenSpec.ofChange juryDecisionsWrong)

/-- 'klisterlaw09.JuryPlaced': WHATEVER THE INPUT: true; the input reads as it did. -/
def juryPlacedSpec : ChangeSpec := { name := "juryPlaced", fn := fun _ => fun
  | [d1, d2, d3, d4] => { results := [.lit (.bool true)], args := [d1, d2, d3, d4] }
  | _ => none }
def juryPlacedRow : OpenClaim := { program := "ytgejpbmanhlkcaagreat", sum := "0fac2ff402f40ba8359dd210e95105f82b52ee4fc7f3f0d9c52abd325a572d57", func := "klister/klisterlaw09.JuryPlaced", spec := "juryPlaced", unfollowed := true, recurses := true, apart := false }
def JuryPlacedSaid : Prop := juryPlacedRow.holds Tryz.pinned (OpenSpec.ofChange juryPlacedSpec)

/-- ITS FALSE NEIGHBOUR: 'it returns false'. Refute it at one input. -/
def juryPlacedWrong : ChangeSpec := { name := "juryPlaced", fn := fun _ => fun
  | [d1, d2, d3, d4] => { results := [.lit (.bool false)], args := [d1, d2, d3, d4] }
  | _ => none }
def JuryPlacedWrongFalsely : Prop := juryPlacedRow.holds Tryz.pinned (OpenSpec.ofChange juryPlacedWrong)

/-- 'klisterlaw09.JuryExplained': WHATEVER THE INPUT: true; the input reads as it did. -/
def juryExplainedSpec : ChangeSpec := { name := "juryExplained", fn := fun _ => fun
  | [d1, d2] => { results := [.lit (.bool true)], args := [d1, d2] }
  | _ => none }
def juryExplainedRow : OpenClaim := { program := "ytgejpbmanhlkcaagreat", sum := "0fac2ff402f40ba8359dd210e95105f82b52ee4fc7f3f0d9c52abd325a572d57", func := "klister/klisterlaw09.JuryExplained", spec := "juryExplained", unfollowed := true, recurses := true, apart := false }
def JuryExplainedSaid : Prop := juryExplainedRow.holds Tryz.pinned (OpenSpec.ofChange juryExplainedSpec)

/-- ITS FALSE NEIGHBOUR: 'it returns false'. Refute it at one input. -/
def juryExplainedWrong : ChangeSpec := { name := "juryExplained", fn := fun _ => fun
  | [d1, d2] => { results := [.lit (.bool false)], args := [d1, d2] }
  | _ => none }
def JuryExplainedWrongFalsely : Prop := juryExplainedRow.holds Tryz.pinned (OpenSpec.ofChange juryExplainedWrong)

/- THE SECOND FORM. 'bulk': how many values and letters a reading holds, each counted each time it is reached (what is shared counts as often as it is met; a slice's spare places count too). A statement '..UptoSaid' is the law's where the arguments, and the package variables that the reading takes, are together of bulk at most 1048576: NARROWER than '..Said'. Prove '..Said' where nothing that the law and all that it calls make is longer than what came in: it says more and counts as full. Else prove '..UptoSaid'. A law counts once. -/
mutual
def uptoBulk {H : Type} : DataW H → Nat
  | .lit (.string bytes) => bytes.length + 1
  | .lit _ => 1
  | .nil => 1
  | .ptr d => uptoBulk d + 1
  | .slice elems spare => uptoBulkAll elems + uptoBulkAll spare + 1
  | .agg parts => uptoBulkAll parts + 1
  | .iface _ d => uptoBulk d + 1
  | .map entries => uptoBulkEntries entries + 1
  | .held _ => 1
def uptoBulkAll {H : Type} : List (DataW H) → Nat
  | [] => 0
  | d :: r => uptoBulk d + uptoBulkAll r
def uptoBulkEntries {H : Type} : List (Lit × DataW H) → Nat
  | [] => 0
  | x :: r => uptoBulkEntry x + uptoBulkEntries r
def uptoBulkEntry {H : Type} : Lit × DataW H → Nat
  | (.string bytes, d) => bytes.length + uptoBulk d + 1
  | (_, d) => uptoBulk d + 1
 end
def uptoSmall : (H : Type) → List (DataW H) → Bool := fun _ ds => decide (uptoBulkAll ds ≤ 1048576)
def OpenSpec.upto (s : _root_.Go.ChangeSpec) : _root_.Go.OpenSpec := { _root_.Go.OpenSpec.ofChange s with cond := some uptoSmall }

/-- 'klisterlaw09.JuryMore', WHERE WHAT IT READS IS OF BULK AT MOST 1048576: true; the input reads as it did. -/
def juryMoreUptoRow : OpenClaim := { program := "ytgejpbmanhlkcaagreat", sum := "0fac2ff402f40ba8359dd210e95105f82b52ee4fc7f3f0d9c52abd325a572d57", func := "klister/klisterlaw09.JuryMore", spec := "juryMore", unfollowed := true, recurses := true, apart := false, narrowed := true }
def JuryMoreUptoSaid : Prop := juryMoreUptoRow.holds Tryz.pinned (OpenSpec.upto juryMoreSpec)

/-- 'klisterlaw09.JuryMoved', WHERE WHAT IT READS IS OF BULK AT MOST 1048576: true; the input reads as it did. -/
def juryMovedUptoRow : OpenClaim := { program := "ytgejpbmanhlkcaagreat", sum := "0fac2ff402f40ba8359dd210e95105f82b52ee4fc7f3f0d9c52abd325a572d57", func := "klister/klisterlaw09.JuryMoved", spec := "juryMoved", unfollowed := true, recurses := true, apart := false, narrowed := true }
def JuryMovedUptoSaid : Prop := juryMovedUptoRow.holds Tryz.pinned (OpenSpec.upto juryMovedSpec)

/-- 'klisterlaw09.JuryFirsts', WHERE WHAT IT READS IS OF BULK AT MOST 1048576: true; the input reads as it did. -/
def juryFirstsUptoRow : OpenClaim := { program := "ytgejpbmanhlkcaagreat", sum := "0fac2ff402f40ba8359dd210e95105f82b52ee4fc7f3f0d9c52abd325a572d57", func := "klister/klisterlaw09.JuryFirsts", spec := "juryFirsts", unfollowed := true, recurses := true, apart := false, narrowed := true }
def JuryFirstsUptoSaid : Prop := juryFirstsUptoRow.holds Tryz.pinned (OpenSpec.upto juryFirstsSpec)

/-- 'klisterlaw09.JuryRecords', WHERE WHAT IT READS IS OF BULK AT MOST 1048576: true; the input reads as it did. -/
def juryRecordsUptoRow : OpenClaim := { program := "ytgejpbmanhlkcaagreat", sum := "0fac2ff402f40ba8359dd210e95105f82b52ee4fc7f3f0d9c52abd325a572d57", func := "klister/klisterlaw09.JuryRecords", spec := "juryRecords", unfollowed := true, recurses := true, apart := false, narrowed := true }
def JuryRecordsUptoSaid : Prop := juryRecordsUptoRow.holds Tryz.pinned (OpenSpec.upto juryRecordsSpec)

/-- 'klisterlaw09.JuryCancelled', WHERE WHAT IT READS IS OF BULK AT MOST 1048576: true; the input reads as it did. -/
def juryCancelledUptoRow : OpenClaim := { program := "ytgejpbmanhlkcaagreat", sum := "0fac2ff402f40ba8359dd210e95105f82b52ee4fc7f3f0d9c52abd325a572d57", func := "klister/klisterlaw09.JuryCancelled", spec := "juryCancelled", unfollowed := true, recurses := true, apart := false, narrowed := true }
def JuryCancelledUptoSaid : Prop := juryCancelledUptoRow.holds Tryz.pinned (OpenSpec.upto juryCancelledSpec)

/-- 'klisterlaw09.JuryRuled', WHERE WHAT IT READS IS OF BULK AT MOST 1048576: true; the input reads as it did. -/
def juryRuledUptoRow : OpenClaim := { program := "ytgejpbmanhlkcaagreat", sum := "0fac2ff402f40ba8359dd210e95105f82b52ee4fc7f3f0d9c52abd325a572d57", func := "klister/klisterlaw09.JuryRuled", spec := "juryRuled", unfollowed := true, recurses := true, apart := false, narrowed := true }
def JuryRuledUptoSaid : Prop := juryRuledUptoRow.holds Tryz.pinned (OpenSpec.upto juryRuledSpec)

/-- 'klisterlaw09.JuryMattered', WHERE WHAT IT READS IS OF BULK AT MOST 1048576: true; the input reads as it did. -/
def juryMatteredUptoRow : OpenClaim := { program := "ytgejpbmanhlkcaagreat", sum := "0fac2ff402f40ba8359dd210e95105f82b52ee4fc7f3f0d9c52abd325a572d57", func := "klister/klisterlaw09.JuryMattered", spec := "juryMattered", unfollowed := true, recurses := true, apart := false, narrowed := true }
def JuryMatteredUptoSaid : Prop := juryMatteredUptoRow.holds Tryz.pinned (OpenSpec.upto juryMatteredSpec)

/-- 'klisterlaw09.JuryAnyOrder', WHERE WHAT IT READS IS OF BULK AT MOST 1048576: true; the input reads as it did. -/
def juryAnyOrderUptoRow : OpenClaim := { program := "ytgejpbmanhlkcaagreat", sum := "0fac2ff402f40ba8359dd210e95105f82b52ee4fc7f3f0d9c52abd325a572d57", func := "klister/klisterlaw09.JuryAnyOrder", spec := "juryAnyOrder", unfollowed := true, recurses := true, apart := false, narrowed := true }
def JuryAnyOrderUptoSaid : Prop := juryAnyOrderUptoRow.holds Tryz.pinned (OpenSpec.upto juryAnyOrderSpec)

/-- 'klisterlaw09.JuryResults', WHERE WHAT IT READS IS OF BULK AT MOST 1048576: true; the input reads as it did. -/
def juryResultsUptoRow : OpenClaim := { program := "ytgejpbmanhlkcaagreat", sum := "0fac2ff402f40ba8359dd210e95105f82b52ee4fc7f3f0d9c52abd325a572d57", func := "klister/klisterlaw09.JuryResults", spec := "juryResults", unfollowed := true, recurses := true, apart := false, narrowed := true }
def JuryResultsUptoSaid : Prop := juryResultsUptoRow.holds Tryz.pinned (OpenSpec.upto juryResultsSpec)

/-- 'klisterlaw09.JuryOutcomes', WHERE WHAT IT READS IS OF BULK AT MOST 1048576: true; the input reads as it did. -/
def juryOutcomesUptoRow : OpenClaim := { program := "ytgejpbmanhlkcaagreat", sum := "0fac2ff402f40ba8359dd210e95105f82b52ee4fc7f3f0d9c52abd325a572d57", func := "klister/klisterlaw09.JuryOutcomes", spec := "juryOutcomes", unfollowed := true, recurses := true, apart := false, narrowed := true }
def JuryOutcomesUptoSaid : Prop := juryOutcomesUptoRow.holds Tryz.pinned (OpenSpec.upto juryOutcomesSpec)

/-- 'klisterlaw09.JuryDecisions', WHERE WHAT IT READS IS OF BULK AT MOST 1048576: true; the input reads as it did. -/
def juryDecisionsUptoRow : OpenClaim := { program := "ytgejpbmanhlkcaagreat", sum := "0fac2ff402f40ba8359dd210e95105f82b52ee4fc7f3f0d9c52abd325a572d57", func := "klister/klisterlaw09.JuryDecisions", spec := "juryDecisions", unfollowed := true, recurses := true, apart := false, narrowed := true }
def JuryDecisionsUptoSaid : Prop := juryDecisionsUptoRow.holds Tryz.pinned (OpenSpec.upto juryDecisionsSpec)

/-- 'klisterlaw09.JuryPlaced', WHERE WHAT IT READS IS OF BULK AT MOST 1048576: true; the input reads as it did. -/
def juryPlacedUptoRow : OpenClaim := { program := "ytgejpbmanhlkcaagreat", sum := "0fac2ff402f40ba8359dd210e95105f82b52ee4fc7f3f0d9c52abd325a572d57", func := "klister/klisterlaw09.JuryPlaced", spec := "juryPlaced", unfollowed := true, recurses := true, apart := false, narrowed := true }
def JuryPlacedUptoSaid : Prop := juryPlacedUptoRow.holds Tryz.pinned (OpenSpec.upto juryPlacedSpec)

/-- 'klisterlaw09.JuryExplained', WHERE WHAT IT READS IS OF BULK AT MOST 1048576: true; the input reads as it did. -/
def juryExplainedUptoRow : OpenClaim := { program := "ytgejpbmanhlkcaagreat", sum := "0fac2ff402f40ba8359dd210e95105f82b52ee4fc7f3f0d9c52abd325a572d57", func := "klister/klisterlaw09.JuryExplained", spec := "juryExplained", unfollowed := true, recurses := true, apart := false, narrowed := true }
def JuryExplainedUptoSaid : Prop := juryExplainedUptoRow.holds Tryz.pinned (OpenSpec.upto juryExplainedSpec)

end Rows
end Go.Proofs.YtgejpbmanhlkcaaGreat
