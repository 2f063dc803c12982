/- A call that is worked out: entry 16 of the table. Written by a program (wip/ab/tools/Gen.lean). -/
import Derived.Test.YtoboobobndefgaaGreatDoorGivenEnts
set_option linter.all false
namespace Go.Proofs.YtoboobobndefgaaGreatDoor
open Go Go.Ab
set_option maxRecDepth 100000

theorem k16 : e16.check (callT Tryz.prog 61 e16.f e16.args e16.start) = true := by kernel_rfl
end Go.Proofs.YtoboobobndefgaaGreatDoor
