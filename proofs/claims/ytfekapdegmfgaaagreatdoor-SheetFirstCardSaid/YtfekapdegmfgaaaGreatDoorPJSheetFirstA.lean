/- Parts of the proof of JSheetFirst: laws of walks, contracts of functions, plain models. No condition. -/
import Derived.Test.YtfekapdegmfgaaaGreatDoorRows
import Derived.Test.YtfekapdegmfgaaaGreatDoorCards
import Derived.SevenTiedAt
import Derived.ProofKit
set_option linter.unusedVariables false
set_option linter.unusedSimpArgs false
set_option linter.unnecessarySimpa false
set_option maxRecDepth 100000
section
namespace Go.Proofs.YtfekapdegmfgaaaGreatDoor
open Go.RowKit
theorem cCf:true=Tryz.prog.looks []:=by kernel_rfl
theorem cEb : Tryz.prog.mainIs = some (true, "fc3a213d7e944039130072f9d0424f91fbc30e25d597438fa960a8a20543f75c".toList) := by kernel_rfl
end Go.Proofs.YtfekapdegmfgaaaGreatDoor
end
