/- A call that is worked out: entry 15 of the table. Written by a program (wip/ab/tools/Gen.lean). -/
import Derived.Test.YtoboobobndefgaaGreatDoorGivenEnts
set_option linter.all false
namespace Go.Proofs.YtoboobobndefgaaGreatDoor
open Go Go.Ab
set_option maxRecDepth 100000

theorem k15 : e15.check (callT Tryz.prog 61 e15.f e15.args e15.start) = true := by kernel_rfl
end Go.Proofs.YtoboobobndefgaaGreatDoor
