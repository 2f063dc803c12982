/- Small calls that are worked out. Written by a program (wip/ab/tools/Gen.lean). -/
import Derived.Test.YtoboobobndefgaaGreatDoorCapsEnts
set_option linter.all false
namespace Go.Proofs.YtoboobobndefgaaGreatDoor
open Go Go.Ab
set_option maxRecDepth 100000

theorem k0 : e0.check (callT Tryz.prog 61 e0.f e0.args e0.start) = true := by kernel_rfl
theorem k5 : e5.check (callT Tryz.prog 61 e5.f e5.args e5.start) = true := by kernel_rfl
theorem k8 : e8.check (callT Tryz.prog 61 e8.f e8.args e8.start) = true := by kernel_rfl
theorem k11 : e11.check (callT Tryz.prog 61 e11.f e11.args e11.start) = true := by kernel_rfl
end Go.Proofs.YtoboobobndefgaaGreatDoor
