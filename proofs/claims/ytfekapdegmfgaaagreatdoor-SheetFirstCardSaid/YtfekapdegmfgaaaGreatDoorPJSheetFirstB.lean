/- Parts of the proof of JSheetFirst: laws of walks, contracts of functions, plain models. No condition. -/
import Derived.Test.YtfekapdegmfgaaaGreatDoorRows
import Derived.Test.YtfekapdegmfgaaaGreatDoorCards
import Derived.SevenTiedAt
import Derived.ProofKit
import Derived.Test.YtfekapdegmfgaaaGreatDoorPJSheetFirstA
set_option linter.unusedVariables false
set_option linter.unusedSimpArgs false
set_option linter.unnecessarySimpa false
set_option maxRecDepth 100000
section
namespace Go.Proofs.YtfekapdegmfgaaaGreatDoor
open Go.RowKit
theorem bDv:false=Rows.sheetFirstRow.goesBy Tryz.prog:=by kernel_rfl
end Go.Proofs.YtfekapdegmfgaaaGreatDoor
end
