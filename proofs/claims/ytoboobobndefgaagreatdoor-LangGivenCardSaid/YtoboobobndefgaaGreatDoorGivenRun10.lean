/- A call that is worked out: entry 10 of the table. Written by a program (wip/ab/tools/Gen.lean). -/
import Derived.Test.YtoboobobndefgaaGreatDoorGivenEnts
set_option linter.all false
namespace Go.Proofs.YtoboobobndefgaaGreatDoor
open Go Go.Ab
set_option maxRecDepth 100000

theorem k10 : e10.check (callT Tryz.prog 61 e10.f e10.args e10.start) = true := by kernel_rfl
end Go.Proofs.YtoboobobndefgaaGreatDoor
