/-
  No cell of these rows narrows 'for every input' (looked for: loops, veiled, ifaces, maps, wideKeys, modest, calm, conditions, laid).
  DERIVED. THE GIVEN ROWS OF THIS SEAT. 15 by the template 'for every input the law returns true; each argument reads behind the call as it read before'; 0 by the template 'total and deterministic' (their statements: YtgehgmllhmfbpaaGreatTotals.lean).
  GIVEN WITH THE SEED: the statements are not yours to turn. If you find one false, say at which input.
  Laid BY PROGRAM, IN A SANDBOX (cutbox-rows.mjs): the forced cells as the released guide's own fill.sh prints them over the translation b8427c2081b65e0f… (all of the seat's roots in one cut). By AI agents, Wed Nov 11 2026. No macro, syntax, notation, axiom, sorry.
-/
import Derived.Test.YtgehgmllhmfbpaaGreatChecked
import GoSem.Claim
import GoSem.ClaimJoined
import GoSem.ClaimMapViews
import Derived.JoinedTies
import Derived.KernelRfl
namespace Go.Proofs.YtgehgmllhmfbpaaGreat
/- THE CELL 'sum', in the pinned program and in every row, IS THE sha256 OF THE DUMP (.gsa) THAT YtgehgmllhmfbpaaGreatProg.lean LOADS. Nothing in Lean hashes anything: it is a label: what it is worth is what the hold of that sum in a sandbox is worth. -/
noncomputable def Tryz.pinned : Pinned := { name := "ytgehgmllhmfbpaagreat", sum := "b8427c2081b65e0ff34ee8a3e4a7d0c1c410dc22ebc01b74f446fb18a07aec21", checked := Tryz.checked }
namespace Rows
def none {H : Type} : Left H := { results := [], args := [] }

/-- 'klisterlaw11.CupNations': WHATEVER THE INPUT: true; the input reads as it did. -/
def cupNationsSpec : ChangeSpec := { name := "cupNations", fn := fun _ => fun
  | [d1, d2, d3, d4] => { results := [.lit (.bool true)], args := [d1, d2, d3, d4] }
  | _ => none }
def cupNationsRow : OpenClaim := { program := "ytgehgmllhmfbpaagreat", sum := "b8427c2081b65e0ff34ee8a3e4a7d0c1c410dc22ebc01b74f446fb18a07aec21", func := "klister/klisterlaw11.CupNations", spec := "cupNations", unfollowed := true, recurses := true, apart := false }
def CupNationsSaid : Prop := cupNationsRow.holds Tryz.pinned (OpenSpec.ofChange cupNationsSpec)

/-- ITS FALSE NEIGHBOUR: 'it returns false'. Refute it at one input. -/
def cupNationsWrong : ChangeSpec := { name := "cupNations", fn := fun _ => fun
  | [d1, d2, d3, d4] => { results := [.lit (.bool false)], args := [d1, d2, d3, d4] }
  | _ => none }
def CupNationsWrongFalsely : Prop := cupNationsRow.holds Tryz.pinned (OpenSpec.ofChange cupNationsWrong)

/-- 'klisterlaw11.CupTeams': WHATEVER THE INPUT: true; the input reads as it did. -/
def cupTeamsSpec : ChangeSpec := { name := "cupTeams", fn := fun _ => fun
  | [d1, d2, d3] => { results := [.lit (.bool true)], args := [d1, d2, d3] }
  | _ => none }
def cupTeamsRow : OpenClaim := { program := "ytgehgmllhmfbpaagreat", sum := "b8427c2081b65e0ff34ee8a3e4a7d0c1c410dc22ebc01b74f446fb18a07aec21", func := "klister/klisterlaw11.CupTeams", spec := "cupTeams", unfollowed := true, recurses := true, apart := false }
def CupTeamsSaid : Prop := cupTeamsRow.holds Tryz.pinned (OpenSpec.ofChange cupTeamsSpec)

/-- ITS FALSE NEIGHBOUR: 'it returns false'. Refute it at one input. -/
def cupTeamsWrong : ChangeSpec := { name := "cupTeams", fn := fun _ => fun
  | [d1, d2, d3] => { results := [.lit (.bool false)], args := [d1, d2, d3] }
  | _ => none }
def CupTeamsWrongFalsely : Prop := cupTeamsRow.holds Tryz.pinned (OpenSpec.ofChange cupTeamsWrong)

/-- 'klisterlaw11.CupShared': WHATEVER THE INPUT: true; the input reads as it did. -/
def cupSharedSpec : ChangeSpec := { name := "cupShared", fn := fun _ => fun
  | [d1, d2] => { results := [.lit (.bool true)], args := [d1, d2] }
  | _ => none }
def cupSharedRow : OpenClaim := { program := "ytgehgmllhmfbpaagreat", sum := "b8427c2081b65e0ff34ee8a3e4a7d0c1c410dc22ebc01b74f446fb18a07aec21", func := "klister/klisterlaw11.CupShared", spec := "cupShared", unfollowed := true, recurses := true, apart := false }
def CupSharedSaid : Prop := cupSharedRow.holds Tryz.pinned (OpenSpec.ofChange cupSharedSpec)

/-- ITS FALSE NEIGHBOUR: 'it returns false'. Refute it at one input. -/
def cupSharedWrong : ChangeSpec := { name := "cupShared", fn := fun _ => fun
  | [d1, d2] => { results := [.lit (.bool false)], args := [d1, d2] }
  | _ => none }
def CupSharedWrongFalsely : Prop := cupSharedRow.holds Tryz.pinned (OpenSpec.ofChange cupSharedWrong)

/-- 'klisterlaw11.CupRanked': WHATEVER THE INPUT: true; the input reads as it did. -/
def cupRankedSpec : ChangeSpec := { name := "cupRanked", fn := fun _ => fun
  | [d1, d2, d3, d4] => { results := [.lit (.bool true)], args := [d1, d2, d3, d4] }
  | _ => none }
def cupRankedRow : OpenClaim := { program := "ytgehgmllhmfbpaagreat", sum := "b8427c2081b65e0ff34ee8a3e4a7d0c1c410dc22ebc01b74f446fb18a07aec21", func := "klister/klisterlaw11.CupRanked", spec := "cupRanked", unfollowed := true, recurses := true, apart := false }
def CupRankedSaid : Prop := cupRankedRow.holds Tryz.pinned (OpenSpec.ofChange cupRankedSpec)

/-- ITS FALSE NEIGHBOUR: 'it returns false'. Refute it at one input. -/
def cupRankedWrong : ChangeSpec := { name := "cupRanked", fn := fun _ => fun
  | [d1, d2, d3, d4] => { results := [.lit (.bool false)], args := [d1, d2, d3, d4] }
  | _ => none }
def CupRankedWrongFalsely : Prop := cupRankedRow.holds Tryz.pinned (OpenSpec.ofChange cupRankedWrong)

/-- 'klisterlaw11.CupNamed': WHATEVER THE INPUT: true; the input reads as it did. -/
def cupNamedSpec : ChangeSpec := { name := "cupNamed", fn := fun _ => fun
  | [d1, d2, d3] => { results := [.lit (.bool true)], args := [d1, d2, d3] }
  | _ => none }
def cupNamedRow : OpenClaim := { program := "ytgehgmllhmfbpaagreat", sum := "b8427c2081b65e0ff34ee8a3e4a7d0c1c410dc22ebc01b74f446fb18a07aec21", func := "klister/klisterlaw11.CupNamed", spec := "cupNamed", unfollowed := true, recurses := true, apart := false }
def CupNamedSaid : Prop := cupNamedRow.holds Tryz.pinned (OpenSpec.ofChange cupNamedSpec)

/-- ITS FALSE NEIGHBOUR: 'it returns false'. Refute it at one input. -/
def cupNamedWrong : ChangeSpec := { name := "cupNamed", fn := fun _ => fun
  | [d1, d2, d3] => { results := [.lit (.bool false)], args := [d1, d2, d3] }
  | _ => none }
def CupNamedWrongFalsely : Prop := cupNamedRow.holds Tryz.pinned (OpenSpec.ofChange cupNamedWrong)

/-- 'klisterlaw11.CupTables': WHATEVER THE INPUT: true; the input reads as it did. -/
def cupTablesSpec : ChangeSpec := { name := "cupTables", fn := fun _ => fun
  | [d1, d2, d3, d4] => { results := [.lit (.bool true)], args := [d1, d2, d3, d4] }
  | _ => none }
def cupTablesRow : OpenClaim := { program := "ytgehgmllhmfbpaagreat", sum := "b8427c2081b65e0ff34ee8a3e4a7d0c1c410dc22ebc01b74f446fb18a07aec21", func := "klister/klisterlaw11.CupTables", spec := "cupTables", unfollowed := true, recurses := true, apart := false }
def CupTablesSaid : Prop := cupTablesRow.holds Tryz.pinned (OpenSpec.ofChange cupTablesSpec)

/-- ITS FALSE NEIGHBOUR: 'it returns false'. Refute it at one input. -/
def cupTablesWrong : ChangeSpec := { name := "cupTables", fn := fun _ => fun
  | [d1, d2, d3, d4] => { results := [.lit (.bool false)], args := [d1, d2, d3, d4] }
  | _ => none }
def CupTablesWrongFalsely : Prop := cupTablesRow.holds Tryz.pinned (OpenSpec.ofChange cupTablesWrong)

/-- 'klisterlaw11.CupScores': WHATEVER THE INPUT: true; the input reads as it did. -/
def cupScoresSpec : ChangeSpec := { name := "cupScores", fn := fun _ => fun
  | [d1, d2, d3] => { results := [.lit (.bool true)], args := [d1, d2, d3] }
  | _ => none }
def cupScoresRow : OpenClaim := { program := "ytgehgmllhmfbpaagreat", sum := "b8427c2081b65e0ff34ee8a3e4a7d0c1c410dc22ebc01b74f446fb18a07aec21", func := "klister/klisterlaw11.CupScores", spec := "cupScores", unfollowed := true, recurses := true, apart := false }
def CupScoresSaid : Prop := cupScoresRow.holds Tryz.pinned (OpenSpec.ofChange cupScoresSpec)

/-- ITS FALSE NEIGHBOUR: 'it returns false'. Refute it at one input. -/
def cupScoresWrong : ChangeSpec := { name := "cupScores", fn := fun _ => fun
  | [d1, d2, d3] => { results := [.lit (.bool false)], args := [d1, d2, d3] }
  | _ => none }
def CupScoresWrongFalsely : Prop := cupScoresRow.holds Tryz.pinned (OpenSpec.ofChange cupScoresWrong)

/-- 'klisterlaw11.CupLasts': WHATEVER THE INPUT: true; the input reads as it did. -/
def cupLastsSpec : ChangeSpec := { name := "cupLasts", fn := fun _ => fun
  | [d1, d2, d3] => { results := [.lit (.bool true)], args := [d1, d2, d3] }
  | _ => none }
def cupLastsRow : OpenClaim := { program := "ytgehgmllhmfbpaagreat", sum := "b8427c2081b65e0ff34ee8a3e4a7d0c1c410dc22ebc01b74f446fb18a07aec21", func := "klister/klisterlaw11.CupLasts", spec := "cupLasts", unfollowed := true, recurses := true, apart := false }
def CupLastsSaid : Prop := cupLastsRow.holds Tryz.pinned (OpenSpec.ofChange cupLastsSpec)

/-- ITS FALSE NEIGHBOUR: 'it returns false'. Refute it at one input. -/
def cupLastsWrong : ChangeSpec := { name := "cupLasts", fn := fun _ => fun
  | [d1, d2, d3] => { results := [.lit (.bool false)], args := [d1, d2, d3] }
  | _ => none }
def CupLastsWrongFalsely : Prop := cupLastsRow.holds Tryz.pinned (OpenSpec.ofChange cupLastsWrong)

/-- 'klisterlaw11.CupBounded': WHATEVER THE INPUT: true; the input reads as it did. -/
def cupBoundedSpec : ChangeSpec := { name := "cupBounded", fn := fun _ => fun
  | [d1, d2] => { results := [.lit (.bool true)], args := [d1, d2] }
  | _ => none }
def cupBoundedRow : OpenClaim := { program := "ytgehgmllhmfbpaagreat", sum := "b8427c2081b65e0ff34ee8a3e4a7d0c1c410dc22ebc01b74f446fb18a07aec21", func := "klister/klisterlaw11.CupBounded", spec := "cupBounded", unfollowed := true, recurses := true, apart := false }
def CupBoundedSaid : Prop := cupBoundedRow.holds Tryz.pinned (OpenSpec.ofChange cupBoundedSpec)

/-- ITS FALSE NEIGHBOUR: 'it returns false'. Refute it at one input. -/
def cupBoundedWrong : ChangeSpec := { name := "cupBounded", fn := fun _ => fun
  | [d1, d2] => { results := [.lit (.bool false)], args := [d1, d2] }
  | _ => none }
def CupBoundedWrongFalsely : Prop := cupBoundedRow.holds Tryz.pinned (OpenSpec.ofChange cupBoundedWrong)

/-- 'klisterlaw11.CupMore': WHATEVER THE INPUT: true; the input reads as it did. -/
def cupMoreSpec : ChangeSpec := { name := "cupMore", fn := fun _ => fun
  | [d1, d2, d3] => { results := [.lit (.bool true)], args := [d1, d2, d3] }
  | _ => none }
def cupMoreRow : OpenClaim := { program := "ytgehgmllhmfbpaagreat", sum := "b8427c2081b65e0ff34ee8a3e4a7d0c1c410dc22ebc01b74f446fb18a07aec21", func := "klister/klisterlaw11.CupMore", spec := "cupMore", unfollowed := true, recurses := true, apart := false }
def CupMoreSaid : Prop := cupMoreRow.holds Tryz.pinned (OpenSpec.ofChange cupMoreSpec)

/-- ITS FALSE NEIGHBOUR: 'it returns false'. Refute it at one input. -/
def cupMoreWrong : ChangeSpec := { name := "cupMore", fn := fun _ => fun
  | [d1, d2, d3] => { results := [.lit (.bool false)], args := [d1, d2, d3] }
  | _ => none }
def CupMoreWrongFalsely : Prop := cupMoreRow.holds Tryz.pinned (OpenSpec.ofChange cupMoreWrong)

/-- 'klisterlaw11.CupBest': WHATEVER THE INPUT: true; the input reads as it did. -/
def cupBestSpec : ChangeSpec := { name := "cupBest", fn := fun _ => fun
  | [d1, d2] => { results := [.lit (.bool true)], args := [d1, d2] }
  | _ => none }
def cupBestRow : OpenClaim := { program := "ytgehgmllhmfbpaagreat", sum := "b8427c2081b65e0ff34ee8a3e4a7d0c1c410dc22ebc01b74f446fb18a07aec21", func := "klister/klisterlaw11.CupBest", spec := "cupBest", unfollowed := true, recurses := true, apart := false }
def CupBestSaid : Prop := cupBestRow.holds Tryz.pinned (OpenSpec.ofChange cupBestSpec)

/-- ITS FALSE NEIGHBOUR: 'it returns false'. Refute it at one input. -/
def cupBestWrong : ChangeSpec := { name := "cupBest", fn := fun _ => fun
  | [d1, d2] => { results := [.lit (.bool false)], args := [d1, d2] }
  | _ => none }
def CupBestWrongFalsely : Prop := cupBestRow.holds Tryz.pinned (OpenSpec.ofChange cupBestWrong)

/-- 'klisterlaw11.CupFirsts': WHATEVER THE INPUT: true; the input reads as it did. -/
def cupFirstsSpec : ChangeSpec := { name := "cupFirsts", fn := fun _ => fun
  | [d1, d2, d3] => { results := [.lit (.bool true)], args := [d1, d2, d3] }
  | _ => none }
def cupFirstsRow : OpenClaim := { program := "ytgehgmllhmfbpaagreat", sum := "b8427c2081b65e0ff34ee8a3e4a7d0c1c410dc22ebc01b74f446fb18a07aec21", func := "klister/klisterlaw11.CupFirsts", spec := "cupFirsts", unfollowed := true, recurses := true, apart := false }
def CupFirstsSaid : Prop := cupFirstsRow.holds Tryz.pinned (OpenSpec.ofChange cupFirstsSpec)

/-- ITS FALSE NEIGHBOUR: 'it returns false'. Refute it at one input. -/
def cupFirstsWrong : ChangeSpec := { name := "cupFirsts", fn := fun _ => fun
  | [d1, d2, d3] => { results := [.lit (.bool false)], args := [d1, d2, d3] }
  | _ => none }
def CupFirstsWrongFalsely : Prop := cupFirstsRow.holds Tryz.pinned (OpenSpec.ofChange cupFirstsWrong)

/-- 'klisterlaw11.CupDecided': WHATEVER THE INPUT: true; the input reads as it did. -/
def cupDecidedSpec : ChangeSpec := { name := "cupDecided", fn := fun _ => fun
  | [d1, d2] => { results := [.lit (.bool true)], args := [d1, d2] }
  | _ => none }
def cupDecidedRow : OpenClaim := { program := "ytgehgmllhmfbpaagreat", sum := "b8427c2081b65e0ff34ee8a3e4a7d0c1c410dc22ebc01b74f446fb18a07aec21", func := "klister/klisterlaw11.CupDecided", spec := "cupDecided", unfollowed := true, recurses := true, apart := false }
def CupDecidedSaid : Prop := cupDecidedRow.holds Tryz.pinned (OpenSpec.ofChange cupDecidedSpec)

/-- ITS FALSE NEIGHBOUR: 'it returns false'. Refute it at one input. -/
def cupDecidedWrong : ChangeSpec := { name := "cupDecided", fn := fun _ => fun
  | [d1, d2] => { results := [.lit (.bool false)], args := [d1, d2] }
  | _ => none }
def CupDecidedWrongFalsely : Prop := cupDecidedRow.holds Tryz.pinned (OpenSpec.ofChange cupDecidedWrong)

/-- 'klisterlaw11.CupLast': WHATEVER THE INPUT: true; the input reads as it did. -/
def cupLastSpec : ChangeSpec := { name := "cupLast", fn := fun _ => fun
  | [d1, d2, d3] => { results := [.lit (.bool true)], args := [d1, d2, d3] }
  | _ => none }
def cupLastRow : OpenClaim := { program := "ytgehgmllhmfbpaagreat", sum := "b8427c2081b65e0ff34ee8a3e4a7d0c1c410dc22ebc01b74f446fb18a07aec21", func := "klister/klisterlaw11.CupLast", spec := "cupLast", unfollowed := true, recurses := true, apart := false }
def CupLastSaid : Prop := cupLastRow.holds Tryz.pinned (OpenSpec.ofChange cupLastSpec)

/-- ITS FALSE NEIGHBOUR: 'it returns false'. Refute it at one input. -/
def cupLastWrong : ChangeSpec := { name := "cupLast", fn := fun _ => fun
  | [d1, d2, d3] => { results := [.lit (.bool false)], args := [d1, d2, d3] }
  | _ => none }
def CupLastWrongFalsely : Prop := cupLastRow.holds Tryz.pinned (OpenSpec.ofChange cupLastWrong)

/-- 'klisterlaw11.CupSmall': WHATEVER THE INPUT: true; the input reads as it did. -/
def cupSmallSpec : ChangeSpec := { name := "cupSmall", fn := fun _ => fun
  | [] => { results := [.lit (.bool true)], args := [] }
  | _ => none }
def cupSmallRow : OpenClaim := { program := "ytgehgmllhmfbpaagreat", sum := "b8427c2081b65e0ff34ee8a3e4a7d0c1c410dc22ebc01b74f446fb18a07aec21", func := "klister/klisterlaw11.CupSmall", spec := "cupSmall", unfollowed := true, recurses := true, apart := false }
def CupSmallSaid : Prop := cupSmallRow.holds Tryz.pinned (OpenSpec.ofChange cupSmallSpec)

/-- ITS FALSE NEIGHBOUR: 'it returns false'. Refute it at one input. -/
def cupSmallWrong : ChangeSpec := { name := "cupSmall", fn := fun _ => fun
  | [] => { results := [.lit (.bool false)], args := [] }
  | _ => none }
def CupSmallWrongFalsely : Prop := cupSmallRow.holds Tryz.pinned (OpenSpec.ofChange cupSmallWrong)

/- THE SECOND FORM. 'bulk': how many values and letters a reading holds, each counted each time it is reached (what is shared counts as often as it is met; a slice's spare places count too). A statement '..UptoSaid' is the law's where the arguments, and the package variables that the reading takes, are together of bulk at most 1048576: NARROWER than '..Said'. Prove '..Said' where nothing that the law and all that it calls make is longer than what came in: it says more and counts as full. Else prove '..UptoSaid'. A law counts once. -/
mutual
def uptoBulk {H : Type} : DataW H → Nat
  | .lit (.string bytes) => bytes.length + 1
  | .lit _ => 1
  | .nil => 1
  | .ptr d => uptoBulk d + 1
  | .slice elems spare => uptoBulkAll elems + uptoBulkAll spare + 1
  | .agg parts => uptoBulkAll parts + 1
  | .iface _ d => uptoBulk d + 1
  | .map entries => uptoBulkEntries entries + 1
  | .held _ => 1
def uptoBulkAll {H : Type} : List (DataW H) → Nat
  | [] => 0
  | d :: r => uptoBulk d + uptoBulkAll r
def uptoBulkEntries {H : Type} : List (Lit × DataW H) → Nat
  | [] => 0
  | x :: r => uptoBulkEntry x + uptoBulkEntries r
def uptoBulkEntry {H : Type} : Lit × DataW H → Nat
  | (.string bytes, d) => bytes.length + uptoBulk d + 1
  | (_, d) => uptoBulk d + 1
 end
def uptoSmall : (H : Type) → List (DataW H) → Bool := fun _ ds => decide (uptoBulkAll ds ≤ 1048576)
def OpenSpec.upto (s : _root_.Go.ChangeSpec) : _root_.Go.OpenSpec := { _root_.Go.OpenSpec.ofChange s with cond := some uptoSmall }

/-- 'klisterlaw11.CupNations', WHERE WHAT IT READS IS OF BULK AT MOST 1048576: true; the input reads as it did. -/
def cupNationsUptoRow : OpenClaim := { program := "ytgehgmllhmfbpaagreat", sum := "b8427c2081b65e0ff34ee8a3e4a7d0c1c410dc22ebc01b74f446fb18a07aec21", func := "klister/klisterlaw11.CupNations", spec := "cupNations", unfollowed := true, recurses := true, apart := false, narrowed := true }
def CupNationsUptoSaid : Prop := cupNationsUptoRow.holds Tryz.pinned (OpenSpec.upto cupNationsSpec)

/-- 'klisterlaw11.CupTeams', WHERE WHAT IT READS IS OF BULK AT MOST 1048576: true; the input reads as it did. -/
def cupTeamsUptoRow : OpenClaim := { program := "ytgehgmllhmfbpaagreat", sum := "b8427c2081b65e0ff34ee8a3e4a7d0c1c410dc22ebc01b74f446fb18a07aec21", func := "klister/klisterlaw11.CupTeams", spec := "cupTeams", unfollowed := true, recurses := true, apart := false, narrowed := true }
def CupTeamsUptoSaid : Prop := cupTeamsUptoRow.holds Tryz.pinned (OpenSpec.upto cupTeamsSpec)

/-- 'klisterlaw11.CupShared', WHERE WHAT IT READS IS OF BULK AT MOST 1048576: true; the input reads as it did. -/
def cupSharedUptoRow : OpenClaim := { program := "ytgehgmllhmfbpaagreat", sum := "b8427c2081b65e0ff34ee8a3e4a7d0c1c410dc22ebc01b74f446fb18a07aec21", func := "klister/klisterlaw11.CupShared", spec := "cupShared", unfollowed := true, recurses := true, apart := false, narrowed := true }
def CupSharedUptoSaid : Prop := cupSharedUptoRow.holds Tryz.pinned (OpenSpec.upto cupSharedSpec)

/-- 'klisterlaw11.CupRanked', WHERE WHAT IT READS IS OF BULK AT MOST 1048576: true; the input reads as it did. -/
def cupRankedUptoRow : OpenClaim := { program := "ytgehgmllhmfbpaagreat", sum := "b8427c2081b65e0ff34ee8a3e4a7d0c1c410dc22ebc01b74f446fb18a07aec21", func := "klister/klisterlaw11.CupRanked", spec := "cupRanked", unfollowed := true, recurses := true, apart := false, narrowed := true }
def CupRankedUptoSaid : Prop := cupRankedUptoRow.holds Tryz.pinned (OpenSpec.upto cupRankedSpec)

/-- 'klisterlaw11.CupNamed', WHERE WHAT IT READS IS OF BULK AT MOST 1048576: true; the input reads as it did. -/
def cupNamedUptoRow : OpenClaim := { program := "ytgehgmllhmfbpaagreat", sum := "b8427c2081b65e0ff34ee8a3e4a7d0c1c410dc22ebc01b74f446fb18a07aec21", func := "klister/klisterlaw11.CupNamed", spec := "cupNamed", unfollowed := true, recurses := true, apart := false, narrowed := true }
def CupNamedUptoSaid : Prop := cupNamedUptoRow.holds Tryz.pinned (OpenSpec.upto cupNamedSpec)

/-- 'klisterlaw11.CupTables', WHERE WHAT IT READS IS OF BULK AT MOST 1048576: true; the input reads as it did. -/
def cupTablesUptoRow : OpenClaim := { program := "ytgehgmllhmfbpaagreat", sum := "b8427c2081b65e0ff34ee8a3e4a7d0c1c410dc22ebc01b74f446fb18a07aec21", func := "klister/klisterlaw11.CupTables", spec := "cupTables", unfollowed := true, recurses := true, apart := false, narrowed := true }
def CupTablesUptoSaid : Prop := cupTablesUptoRow.holds Tryz.pinned (OpenSpec.upto cupTablesSpec)

/-- 'klisterlaw11.CupScores', WHERE WHAT IT READS IS OF BULK AT MOST 1048576: true; the input reads as it did. -/
def cupScoresUptoRow : OpenClaim := { program := "ytgehgmllhmfbpaagreat", sum := "b8427c2081b65e0ff34ee8a3e4a7d0c1c410dc22ebc01b74f446fb18a07aec21", func := "klister/klisterlaw11.CupScores", spec := "cupScores", unfollowed := true, recurses := true, apart := false, narrowed := true }
def CupScoresUptoSaid : Prop := cupScoresUptoRow.holds Tryz.pinned (OpenSpec.upto cupScoresSpec)

/-- 'klisterlaw11.CupLasts', WHERE WHAT IT READS IS OF BULK AT MOST 1048576: true; the input reads as it did. -/
def cupLastsUptoRow : OpenClaim := { program := "ytgehgmllhmfbpaagreat", sum := "b8427c2081b65e0ff34ee8a3e4a7d0c1c410dc22ebc01b74f446fb18a07aec21", func := "klister/klisterlaw11.CupLasts", spec := "cupLasts", unfollowed := true, recurses := true, apart := false, narrowed := true }
def CupLastsUptoSaid : Prop := cupLastsUptoRow.holds Tryz.pinned (OpenSpec.upto cupLastsSpec)

/-- 'klisterlaw11.CupBounded', WHERE WHAT IT READS IS OF BULK AT MOST 1048576: true; the input reads as it did. -/
def cupBoundedUptoRow : OpenClaim := { program := "ytgehgmllhmfbpaagreat", sum := "b8427c2081b65e0ff34ee8a3e4a7d0c1c410dc22ebc01b74f446fb18a07aec21", func := "klister/klisterlaw11.CupBounded", spec := "cupBounded", unfollowed := true, recurses := true, apart := false, narrowed := true }
def CupBoundedUptoSaid : Prop := cupBoundedUptoRow.holds Tryz.pinned (OpenSpec.upto cupBoundedSpec)

/-- 'klisterlaw11.CupMore', WHERE WHAT IT READS IS OF BULK AT MOST 1048576: true; the input reads as it did. -/
def cupMoreUptoRow : OpenClaim := { program := "ytgehgmllhmfbpaagreat", sum := "b8427c2081b65e0ff34ee8a3e4a7d0c1c410dc22ebc01b74f446fb18a07aec21", func := "klister/klisterlaw11.CupMore", spec := "cupMore", unfollowed := true, recurses := true, apart := false, narrowed := true }
def CupMoreUptoSaid : Prop := cupMoreUptoRow.holds Tryz.pinned (OpenSpec.upto cupMoreSpec)

/-- 'klisterlaw11.CupBest', WHERE WHAT IT READS IS OF BULK AT MOST 1048576: true; the input reads as it did. -/
def cupBestUptoRow : OpenClaim := { program := "ytgehgmllhmfbpaagreat", sum := "b8427c2081b65e0ff34ee8a3e4a7d0c1c410dc22ebc01b74f446fb18a07aec21", func := "klister/klisterlaw11.CupBest", spec := "cupBest", unfollowed := true, recurses := true, apart := false, narrowed := true }
def CupBestUptoSaid : Prop := cupBestUptoRow.holds Tryz.pinned (OpenSpec.upto cupBestSpec)

/-- 'klisterlaw11.CupFirsts', WHERE WHAT IT READS IS OF BULK AT MOST 1048576: true; the input reads as it did. -/
def cupFirstsUptoRow : OpenClaim := { program := "ytgehgmllhmfbpaagreat", sum := "b8427c2081b65e0ff34ee8a3e4a7d0c1c410dc22ebc01b74f446fb18a07aec21", func := "klister/klisterlaw11.CupFirsts", spec := "cupFirsts", unfollowed := true, recurses := true, apart := false, narrowed := true }
def CupFirstsUptoSaid : Prop := cupFirstsUptoRow.holds Tryz.pinned (OpenSpec.upto cupFirstsSpec)

/-- 'klisterlaw11.CupDecided', WHERE WHAT IT READS IS OF BULK AT MOST 1048576: true; the input reads as it did. -/
def cupDecidedUptoRow : OpenClaim := { program := "ytgehgmllhmfbpaagreat", sum := "b8427c2081b65e0ff34ee8a3e4a7d0c1c410dc22ebc01b74f446fb18a07aec21", func := "klister/klisterlaw11.CupDecided", spec := "cupDecided", unfollowed := true, recurses := true, apart := false, narrowed := true }
def CupDecidedUptoSaid : Prop := cupDecidedUptoRow.holds Tryz.pinned (OpenSpec.upto cupDecidedSpec)

/-- 'klisterlaw11.CupLast', WHERE WHAT IT READS IS OF BULK AT MOST 1048576: true; the input reads as it did. -/
def cupLastUptoRow : OpenClaim := { program := "ytgehgmllhmfbpaagreat", sum := "b8427c2081b65e0ff34ee8a3e4a7d0c1c410dc22ebc01b74f446fb18a07aec21", func := "klister/klisterlaw11.CupLast", spec := "cupLast", unfollowed := true, recurses := true, apart := false, narrowed := true }
def CupLastUptoSaid : Prop := cupLastUptoRow.holds Tryz.pinned (OpenSpec.upto cupLastSpec)

/-- 'klisterlaw11.CupSmall', WHERE WHAT IT READS IS OF BULK AT MOST 1048576: true; the input reads as it did. -/
def cupSmallUptoRow : OpenClaim := { program := "ytgehgmllhmfbpaagreat", sum := "b8427c2081b65e0ff34ee8a3e4a7d0c1c410dc22ebc01b74f446fb18a07aec21", func := "klister/klisterlaw11.CupSmall", spec := "cupSmall", unfollowed := true, recurses := true, apart := false, narrowed := true }
def CupSmallUptoSaid : Prop := cupSmallUptoRow.holds Tryz.pinned (OpenSpec.upto cupSmallSpec)

end Rows
end Go.Proofs.YtgehgmllhmfbpaaGreat
