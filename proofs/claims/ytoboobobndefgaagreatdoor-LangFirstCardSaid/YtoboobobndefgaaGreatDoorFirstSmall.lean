/- Small calls that are worked out. Written by a program (wip/ab/tools/Gen.lean). -/
import Derived.Test.YtoboobobndefgaaGreatDoorFirstEnts
set_option linter.all false
namespace Go.Proofs.YtoboobobndefgaaGreatDoor
open Go Go.Ab
set_option maxRecDepth 100000

theorem k0 : e0.check (callT Tryz.prog 61 e0.f e0.args e0.start) = true := by kernel_rfl
theorem k5 : e5.check (callT Tryz.prog 61 e5.f e5.args e5.start) = true := by kernel_rfl
theorem k8 : e8.check (callT Tryz.prog 61 e8.f e8.args e8.start) = true := by kernel_rfl
theorem k10 : e10.check (callT Tryz.prog 61 e10.f e10.args e10.start) = true := by kernel_rfl
theorem k13 : e13.check (callT Tryz.prog 61 e13.f e13.args e13.start) = true := by kernel_rfl
theorem k17 : e17.check (callT Tryz.prog 61 e17.f e17.args e17.start) = true := by kernel_rfl
theorem k22 : e22.check (callT Tryz.prog 61 e22.f e22.args e22.start) = true := by kernel_rfl
end Go.Proofs.YtoboobobndefgaaGreatDoor
