/- A call that is worked out: entry 25 of the table. Written by a program (wip/ab/tools/Gen.lean). -/
import Derived.Test.YtoboobobndefgaaGreatDoorFirstEnts
set_option linter.all false
namespace Go.Proofs.YtoboobobndefgaaGreatDoor
open Go Go.Ab
set_option maxRecDepth 100000

theorem k25 : e25.check (callT Tryz.prog 61 e25.f e25.args e25.start) = true := by kernel_rfl
end Go.Proofs.YtoboobobndefgaaGreatDoor
