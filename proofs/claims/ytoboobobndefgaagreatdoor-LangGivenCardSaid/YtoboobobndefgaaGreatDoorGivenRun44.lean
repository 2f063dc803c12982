/- A call that is worked out: entry 44 of the table. Written by a program (wip/ab/tools/Gen.lean). -/
import Derived.Test.YtoboobobndefgaaGreatDoorGivenEnts
set_option linter.all false
namespace Go.Proofs.YtoboobobndefgaaGreatDoor
open Go Go.Ab
set_option maxRecDepth 100000

theorem k44 : e44.check (callT Tryz.prog 61 e44.f e44.args e44.start) = true := by kernel_rfl
end Go.Proofs.YtoboobobndefgaaGreatDoor
