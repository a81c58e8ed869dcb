/-
  No cell of these rows narrows 'for every input' (looked for: loops, veiled, ifaces, maps, wideKeys, modest, calm, conditions, laid).
  DERIVED. THE GIVEN ROWS OF THIS SEAT. 4 by the template 'for every input the law returns true; each argument reads behind the call as it read before'; 0 by the template 'total and deterministic' (their statements: YtcfoklnaehgmmaaGreatTotals.lean).
  GIVEN WITH THE SEED: the statements are not yours to turn. If you find one false, say at which input.
  Laid BY PROGRAM, IN A SANDBOX (cutbox-rows.mjs): the forced cells as the released guide's own fill.sh prints them over the translation 9cd2a03f517cd39b… (all of the seat's roots in one cut). By AI agents, Wed Nov 11 2026. No macro, syntax, notation, axiom, sorry.
-/
import Derived.Test.YtcfoklnaehgmmaaGreatChecked
import GoSem.Claim
import GoSem.ClaimJoined
import GoSem.ClaimMapViews
import Derived.JoinedTies
import Derived.KernelRfl
namespace Go.Proofs.YtcfoklnaehgmmaaGreat
/- THE CELL 'sum', in the pinned program and in every row, IS THE sha256 OF THE DUMP (.gsa) THAT YtcfoklnaehgmmaaGreatProg.lean LOADS. Nothing in Lean hashes anything: it is a label: what it is worth is what the hold of that sum in a sandbox is worth. -/
noncomputable def Tryz.pinned : Pinned := { name := "ytcfoklnaehgmmaagreat", sum := "9cd2a03f517cd39b83828fbb63fbb488f0c91368d4f26a1a741a7a159117ea8d", checked := Tryz.checked }
namespace Rows
def none {H : Type} : Left H := { results := [], args := [] }

/-- 'klistertop.TopContested': WHATEVER THE INPUT: true; the input reads as it did. -/
def topContestedSpec : ChangeSpec := { name := "topContested", fn := fun _ => fun
  | [d1, d2, d3] => { results := [.lit (.bool true)], args := [d1, d2, d3] }
  | _ => none }
def topContestedRow : OpenClaim := { program := "ytcfoklnaehgmmaagreat", sum := "9cd2a03f517cd39b83828fbb63fbb488f0c91368d4f26a1a741a7a159117ea8d", func := "klister/klistertop.TopContested", spec := "topContested", unfollowed := true, recurses := true, apart := false }
def TopContestedSaid : Prop := topContestedRow.holds Tryz.pinned (OpenSpec.ofChange topContestedSpec)

/-- ITS FALSE NEIGHBOUR: 'it returns false'. Refute it at one input. -/
def topContestedWrong : ChangeSpec := { name := "topContested", fn := fun _ => fun
  | [d1, d2, d3] => { results := [.lit (.bool false)], args := [d1, d2, d3] }
  | _ => none }
def TopContestedWrongFalsely : Prop := topContestedRow.holds Tryz.pinned (OpenSpec.ofChange topContestedWrong)

/-- 'klisterlaw09.JuryPursued': WHATEVER THE INPUT: true; the input reads as it did. -/
def juryPursuedSpec : ChangeSpec := { name := "juryPursued", fn := fun _ => fun
  | [d1, d2] => { results := [.lit (.bool true)], args := [d1, d2] }
  | _ => none }
def juryPursuedRow : OpenClaim := { program := "ytcfoklnaehgmmaagreat", sum := "9cd2a03f517cd39b83828fbb63fbb488f0c91368d4f26a1a741a7a159117ea8d", func := "klister/klisterlaw09.JuryPursued", spec := "juryPursued", unfollowed := true, recurses := true, apart := false }
def JuryPursuedSaid : Prop := juryPursuedRow.holds Tryz.pinned (OpenSpec.ofChange juryPursuedSpec)

/-- ITS FALSE NEIGHBOUR: 'it returns false'. Refute it at one input. -/
def juryPursuedWrong : ChangeSpec := { name := "juryPursued", fn := fun _ => fun
  | [d1, d2] => { results := [.lit (.bool false)], args := [d1, d2] }
  | _ => none }
def JuryPursuedWrongFalsely : Prop := juryPursuedRow.holds Tryz.pinned (OpenSpec.ofChange juryPursuedWrong)

/-- 'klisterlaw09.JuryDue': WHATEVER THE INPUT: true; the input reads as it did. -/
def juryDueSpec : ChangeSpec := { name := "juryDue", fn := fun _ => fun
  | [d1, d2] => { results := [.lit (.bool true)], args := [d1, d2] }
  | _ => none }
def juryDueRow : OpenClaim := { program := "ytcfoklnaehgmmaagreat", sum := "9cd2a03f517cd39b83828fbb63fbb488f0c91368d4f26a1a741a7a159117ea8d", func := "klister/klisterlaw09.JuryDue", spec := "juryDue", unfollowed := true, recurses := true, apart := false }
def JuryDueSaid : Prop := juryDueRow.holds Tryz.pinned (OpenSpec.ofChange juryDueSpec)

/-- ITS FALSE NEIGHBOUR: 'it returns false'. Refute it at one input. -/
def juryDueWrong : ChangeSpec := { name := "juryDue", fn := fun _ => fun
  | [d1, d2] => { results := [.lit (.bool false)], args := [d1, d2] }
  | _ => none }
def JuryDueWrongFalsely : Prop := juryDueRow.holds Tryz.pinned (OpenSpec.ofChange juryDueWrong)

/-- 'klisterlaw11.CupJudged': WHATEVER THE INPUT: true; the input reads as it did. -/
def cupJudgedSpec : ChangeSpec := { name := "cupJudged", fn := fun _ => fun
  | [d1, d2, d3, d4] => { results := [.lit (.bool true)], args := [d1, d2, d3, d4] }
  | _ => none }
def cupJudgedRow : OpenClaim := { program := "ytcfoklnaehgmmaagreat", sum := "9cd2a03f517cd39b83828fbb63fbb488f0c91368d4f26a1a741a7a159117ea8d", func := "klister/klisterlaw11.CupJudged", spec := "cupJudged", unfollowed := true, recurses := true, apart := false }
def CupJudgedSaid : Prop := cupJudgedRow.holds Tryz.pinned (OpenSpec.ofChange cupJudgedSpec)

/-- ITS FALSE NEIGHBOUR: 'it returns false'. Refute it at one input. -/
def cupJudgedWrong : ChangeSpec := { name := "cupJudged", fn := fun _ => fun
  | [d1, d2, d3, d4] => { results := [.lit (.bool false)], args := [d1, d2, d3, d4] }
  | _ => none }
def CupJudgedWrongFalsely : Prop := cupJudgedRow.holds Tryz.pinned (OpenSpec.ofChange cupJudgedWrong)

/- THE SECOND FORM. 'bulk': how many values and letters a reading holds, each counted each time it is reached (what is shared counts as often as it is met; a slice's spare places count too). A statement '..UptoSaid' is the law's where the arguments, and the package variables that the reading takes, are together of bulk at most 1048576: NARROWER than '..Said'. Prove '..Said' where nothing that the law and all that it calls make is longer than what came in: it says more and counts as full. Else prove '..UptoSaid'. A law counts once. -/
mutual
def uptoBulk {H : Type} : DataW H → Nat
  | .lit (.string bytes) => bytes.length + 1
  | .lit _ => 1
  | .nil => 1
  | .ptr d => uptoBulk d + 1
  | .slice elems spare => uptoBulkAll elems + uptoBulkAll spare + 1
  | .agg parts => uptoBulkAll parts + 1
  | .iface _ d => uptoBulk d + 1
  | .map entries => uptoBulkEntries entries + 1
  | .held _ => 1
def uptoBulkAll {H : Type} : List (DataW H) → Nat
  | [] => 0
  | d :: r => uptoBulk d + uptoBulkAll r
def uptoBulkEntries {H : Type} : List (Lit × DataW H) → Nat
  | [] => 0
  | x :: r => uptoBulkEntry x + uptoBulkEntries r
def uptoBulkEntry {H : Type} : Lit × DataW H → Nat
  | (.string bytes, d) => bytes.length + uptoBulk d + 1
  | (_, d) => uptoBulk d + 1
 end
def uptoSmall : (H : Type) → List (DataW H) → Bool := fun _ ds => decide (uptoBulkAll ds ≤ 1048576)
def OpenSpec.upto (s : _root_.Go.ChangeSpec) : _root_.Go.OpenSpec := { _root_.Go.OpenSpec.ofChange s with cond := some uptoSmall }

/-- 'klistertop.TopContested', WHERE WHAT IT READS IS OF BULK AT MOST 1048576: true; the input reads as it did. -/
def topContestedUptoRow : OpenClaim := { program := "ytcfoklnaehgmmaagreat", sum := "9cd2a03f517cd39b83828fbb63fbb488f0c91368d4f26a1a741a7a159117ea8d", func := "klister/klistertop.TopContested", spec := "topContested", unfollowed := true, recurses := true, apart := false, narrowed := true }
def TopContestedUptoSaid : Prop := topContestedUptoRow.holds Tryz.pinned (OpenSpec.upto topContestedSpec)

/-- 'klisterlaw09.JuryPursued', WHERE WHAT IT READS IS OF BULK AT MOST 1048576: true; the input reads as it did. -/
def juryPursuedUptoRow : OpenClaim := { program := "ytcfoklnaehgmmaagreat", sum := "9cd2a03f517cd39b83828fbb63fbb488f0c91368d4f26a1a741a7a159117ea8d", func := "klister/klisterlaw09.JuryPursued", spec := "juryPursued", unfollowed := true, recurses := true, apart := false, narrowed := true }
def JuryPursuedUptoSaid : Prop := juryPursuedUptoRow.holds Tryz.pinned (OpenSpec.upto juryPursuedSpec)

/-- 'klisterlaw09.JuryDue', WHERE WHAT IT READS IS OF BULK AT MOST 1048576: true; the input reads as it did. -/
def juryDueUptoRow : OpenClaim := { program := "ytcfoklnaehgmmaagreat", sum := "9cd2a03f517cd39b83828fbb63fbb488f0c91368d4f26a1a741a7a159117ea8d", func := "klister/klisterlaw09.JuryDue", spec := "juryDue", unfollowed := true, recurses := true, apart := false, narrowed := true }
def JuryDueUptoSaid : Prop := juryDueUptoRow.holds Tryz.pinned (OpenSpec.upto juryDueSpec)

/-- 'klisterlaw11.CupJudged', WHERE WHAT IT READS IS OF BULK AT MOST 1048576: true; the input reads as it did. -/
def cupJudgedUptoRow : OpenClaim := { program := "ytcfoklnaehgmmaagreat", sum := "9cd2a03f517cd39b83828fbb63fbb488f0c91368d4f26a1a741a7a159117ea8d", func := "klister/klisterlaw11.CupJudged", spec := "cupJudged", unfollowed := true, recurses := true, apart := false, narrowed := true }
def CupJudgedUptoSaid : Prop := cupJudgedUptoRow.holds Tryz.pinned (OpenSpec.upto cupJudgedSpec)

end Rows
end Go.Proofs.YtcfoklnaehgmmaaGreat
