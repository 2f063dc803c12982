/- A call that is worked out: entry 11 of the table. Written by a program (wip/ab/tools/Gen.lean). -/
import Derived.Test.YtoboobobndefgaaGreatDoorGivenEnts
set_option linter.all false
namespace Go.Proofs.YtoboobobndefgaaGreatDoor
open Go Go.Ab
set_option maxRecDepth 100000

theorem k11 : e11.check (callT Tryz.prog 61 e11.f e11.args e11.start) = true := by kernel_rfl
end Go.Proofs.YtoboobobndefgaaGreatDoor
