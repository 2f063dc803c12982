/- A call that is worked out: entry 3 of the table. Written by a program (wip/ab/tools/Gen.lean). -/
import Derived.Test.YtoboobobndefgaaGreatDoorGivenEnts
set_option linter.all false
namespace Go.Proofs.YtoboobobndefgaaGreatDoor
open Go Go.Ab
set_option maxRecDepth 100000

theorem k3 : e3.check (callT Tryz.prog 61 e3.f e3.args e3.start) = true := by kernel_rfl
end Go.Proofs.YtoboobobndefgaaGreatDoor
