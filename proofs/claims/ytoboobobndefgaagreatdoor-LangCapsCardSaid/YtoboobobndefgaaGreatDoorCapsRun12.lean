/- A call that is worked out: entry 12 of the table. Written by a program (wip/ab/tools/Gen.lean). -/
import Derived.Test.YtoboobobndefgaaGreatDoorCapsEnts
set_option linter.all false
namespace Go.Proofs.YtoboobobndefgaaGreatDoor
open Go Go.Ab
set_option maxRecDepth 100000

theorem k12 : e12.check (callT Tryz.prog 61 e12.f e12.args e12.start) = true := by kernel_rfl
end Go.Proofs.YtoboobobndefgaaGreatDoor
