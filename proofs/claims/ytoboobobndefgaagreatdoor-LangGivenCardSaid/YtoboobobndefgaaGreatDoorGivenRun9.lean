/- A call that is worked out: entry 9 of the table. Written by a program (wip/ab/tools/Gen.lean). -/
import Derived.Test.YtoboobobndefgaaGreatDoorGivenEnts
set_option linter.all false
namespace Go.Proofs.YtoboobobndefgaaGreatDoor
open Go Go.Ab
set_option maxRecDepth 100000

theorem k9 : e9.check (callT Tryz.prog 61 e9.f e9.args e9.start) = true := by kernel_rfl
end Go.Proofs.YtoboobobndefgaaGreatDoor
