/- Small calls that are worked out. Written by a program (wip/ab/tools/Gen.lean). -/
import Derived.Test.YtoboobobndefgaaGreatDoorGivenEnts
set_option linter.all false
namespace Go.Proofs.YtoboobobndefgaaGreatDoor
open Go Go.Ab
set_option maxRecDepth 100000

theorem k0 : e0.check (callT Tryz.prog 61 e0.f e0.args e0.start) = true := by kernel_rfl
theorem k5 : e5.check (callT Tryz.prog 61 e5.f e5.args e5.start) = true := by kernel_rfl
theorem k8 : e8.check (callT Tryz.prog 61 e8.f e8.args e8.start) = true := by kernel_rfl
theorem k13 : e13.check (callT Tryz.prog 61 e13.f e13.args e13.start) = true := by kernel_rfl
theorem k18 : e18.check (callT Tryz.prog 61 e18.f e18.args e18.start) = true := by kernel_rfl
theorem k25 : e25.check (callT Tryz.prog 61 e25.f e25.args e25.start) = true := by kernel_rfl
theorem k30 : e30.check (callT Tryz.prog 61 e30.f e30.args e30.start) = true := by kernel_rfl
theorem k35 : e35.check (callT Tryz.prog 61 e35.f e35.args e35.start) = true := by kernel_rfl
theorem k39 : e39.check (callT Tryz.prog 61 e39.f e39.args e39.start) = true := by kernel_rfl
theorem k41 : e41.check (callT Tryz.prog 61 e41.f e41.args e41.start) = true := by kernel_rfl
theorem k46 : e46.check (callT Tryz.prog 61 e46.f e46.args e46.start) = true := by kernel_rfl
end Go.Proofs.YtoboobobndefgaaGreatDoor
