/- A call that is worked out: entry 49 of the table. Written by a program (wip/ab/tools/Gen.lean). -/
import Derived.Test.YtoboobobndefgaaGreatDoorGivenEnts
set_option linter.all false
namespace Go.Proofs.YtoboobobndefgaaGreatDoor
open Go Go.Ab
set_option maxRecDepth 100000

theorem k49 : e49.check (callT Tryz.prog 61 e49.f e49.args e49.start) = true := by kernel_rfl
end Go.Proofs.YtoboobobndefgaaGreatDoor
