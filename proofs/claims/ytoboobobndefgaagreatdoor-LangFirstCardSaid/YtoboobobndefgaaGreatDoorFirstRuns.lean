/- All the calls that are worked out, each by what it asks of the table. Written by a program (wip/ab/tools/Gen.lean). -/
import Derived.Test.YtoboobobndefgaaGreatDoorStart
import Derived.Test.YtoboobobndefgaaGreatDoorFirstSmall
import Derived.Test.YtoboobobndefgaaGreatDoorFirstRun1
import Derived.Test.YtoboobobndefgaaGreatDoorFirstRun2
import Derived.Test.YtoboobobndefgaaGreatDoorFirstRun3
import Derived.Test.YtoboobobndefgaaGreatDoorFirstRun11
import Derived.Test.YtoboobobndefgaaGreatDoorFirstRun14
import Derived.Test.YtoboobobndefgaaGreatDoorFirstRun15
import Derived.Test.YtoboobobndefgaaGreatDoorFirstRun18
import Derived.Test.YtoboobobndefgaaGreatDoorFirstRun19
import Derived.Test.YtoboobobndefgaaGreatDoorFirstRun20
import Derived.Test.YtoboobobndefgaaGreatDoorFirstRun23
import Derived.Test.YtoboobobndefgaaGreatDoorFirstRun24
import Derived.Test.YtoboobobndefgaaGreatDoorFirstRun25
set_option linter.all false
namespace Go.Proofs.YtoboobobndefgaaGreatDoor
open Go Go.Ab
set_option maxRecDepth 100000

theorem ok0 : EntOK Tryz.prog e0 := ⟨_, callT_ok follows 61, k0⟩
theorem ok1 : EntOK Tryz.prog e1 := ⟨_, callT_ok follows 61, k1⟩
theorem ok2 : EntOK Tryz.prog e2 := ⟨_, callT_ok follows 61, k2⟩
theorem ok3 : EntOK Tryz.prog e3 := ⟨_, callT_ok follows 61, k3⟩
theorem k4 : e4.check (once Tryz.prog (orc [e0, e1, e2, e3] (callT Tryz.prog 60)) e4.f e4.args e4.start) = true := by kernel_rfl
theorem ok4 : EntOK Tryz.prog e4 := ⟨_, once_ok follows (orc_ok (callT_ok follows 60) _ (List.forall_mem_cons.2 ⟨ok0, List.forall_mem_cons.2 ⟨ok1, List.forall_mem_cons.2 ⟨ok2, List.forall_mem_cons.2 ⟨ok3, fun _ h => absurd h List.not_mem_nil⟩⟩⟩⟩)), k4⟩
theorem ok5 : EntOK Tryz.prog e5 := ⟨_, callT_ok follows 61, k5⟩
theorem k6 : e6.check (once Tryz.prog (orc [e5] (callT Tryz.prog 60)) e6.f e6.args e6.start) = true := by kernel_rfl
theorem ok6 : EntOK Tryz.prog e6 := ⟨_, once_ok follows (orc_ok (callT_ok follows 60) _ (List.forall_mem_cons.2 ⟨ok5, fun _ h => absurd h List.not_mem_nil⟩)), k6⟩
theorem k7 : e7.check (once Tryz.prog (orc [e4, e6] (callT Tryz.prog 60)) e7.f e7.args e7.start) = true := by kernel_rfl
theorem ok7 : EntOK Tryz.prog e7 := ⟨_, once_ok follows (orc_ok (callT_ok follows 60) _ (List.forall_mem_cons.2 ⟨ok4, List.forall_mem_cons.2 ⟨ok6, fun _ h => absurd h List.not_mem_nil⟩⟩)), k7⟩
theorem ok8 : EntOK Tryz.prog e8 := ⟨_, callT_ok follows 61, k8⟩
theorem k9 : e9.check (once Tryz.prog (orc [e8] (callT Tryz.prog 60)) e9.f e9.args e9.start) = true := by kernel_rfl
theorem ok9 : EntOK Tryz.prog e9 := ⟨_, once_ok follows (orc_ok (callT_ok follows 60) _ (List.forall_mem_cons.2 ⟨ok8, fun _ h => absurd h List.not_mem_nil⟩)), k9⟩
theorem ok10 : EntOK Tryz.prog e10 := ⟨_, callT_ok follows 61, k10⟩
theorem ok11 : EntOK Tryz.prog e11 := ⟨_, callT_ok follows 61, k11⟩
theorem k12 : e12.check (once Tryz.prog (orc [e10, e11] (callT Tryz.prog 60)) e12.f e12.args e12.start) = true := by kernel_rfl
theorem ok12 : EntOK Tryz.prog e12 := ⟨_, once_ok follows (orc_ok (callT_ok follows 60) _ (List.forall_mem_cons.2 ⟨ok10, List.forall_mem_cons.2 ⟨ok11, fun _ h => absurd h List.not_mem_nil⟩⟩)), k12⟩
theorem ok13 : EntOK Tryz.prog e13 := ⟨_, callT_ok follows 61, k13⟩
theorem ok14 : EntOK Tryz.prog e14 := ⟨_, callT_ok follows 61, k14⟩
theorem ok15 : EntOK Tryz.prog e15 := ⟨_, callT_ok follows 61, k15⟩
theorem k16 : e16.check (once Tryz.prog (orc [e13, e14, e15] (callT Tryz.prog 60)) e16.f e16.args e16.start) = true := by kernel_rfl
theorem ok16 : EntOK Tryz.prog e16 := ⟨_, once_ok follows (orc_ok (callT_ok follows 60) _ (List.forall_mem_cons.2 ⟨ok13, List.forall_mem_cons.2 ⟨ok14, List.forall_mem_cons.2 ⟨ok15, fun _ h => absurd h List.not_mem_nil⟩⟩⟩)), k16⟩
theorem ok17 : EntOK Tryz.prog e17 := ⟨_, callT_ok follows 61, k17⟩
theorem ok18 : EntOK Tryz.prog e18 := ⟨_, callT_ok follows 61, k18⟩
theorem ok19 : EntOK Tryz.prog e19 := ⟨_, callT_ok follows 61, k19⟩
theorem ok20 : EntOK Tryz.prog e20 := ⟨_, callT_ok follows 61, k20⟩
theorem k21 : e21.check (once Tryz.prog (orc [e17, e18, e19, e20] (callT Tryz.prog 60)) e21.f e21.args e21.start) = true := by kernel_rfl
theorem ok21 : EntOK Tryz.prog e21 := ⟨_, once_ok follows (orc_ok (callT_ok follows 60) _ (List.forall_mem_cons.2 ⟨ok17, List.forall_mem_cons.2 ⟨ok18, List.forall_mem_cons.2 ⟨ok19, List.forall_mem_cons.2 ⟨ok20, fun _ h => absurd h List.not_mem_nil⟩⟩⟩⟩)), k21⟩
theorem ok22 : EntOK Tryz.prog e22 := ⟨_, callT_ok follows 61, k22⟩
theorem ok23 : EntOK Tryz.prog e23 := ⟨_, callT_ok follows 61, k23⟩
theorem ok24 : EntOK Tryz.prog e24 := ⟨_, callT_ok follows 61, k24⟩
theorem ok25 : EntOK Tryz.prog e25 := ⟨_, callT_ok follows 61, k25⟩
theorem k26 : e26.check (once Tryz.prog (orc [e22, e23, e24, e25] (callT Tryz.prog 60)) e26.f e26.args e26.start) = true := by kernel_rfl
theorem ok26 : EntOK Tryz.prog e26 := ⟨_, once_ok follows (orc_ok (callT_ok follows 60) _ (List.forall_mem_cons.2 ⟨ok22, List.forall_mem_cons.2 ⟨ok23, List.forall_mem_cons.2 ⟨ok24, List.forall_mem_cons.2 ⟨ok25, fun _ h => absurd h List.not_mem_nil⟩⟩⟩⟩)), k26⟩
theorem k27 : e27.check (once Tryz.prog (orc [e7, e9, e12, e16, e21, e26] (callT Tryz.prog 60)) e27.f e27.args e27.start) = true := by kernel_rfl
theorem ok27 : EntOK Tryz.prog e27 := ⟨_, once_ok follows (orc_ok (callT_ok follows 60) _ (List.forall_mem_cons.2 ⟨ok7, List.forall_mem_cons.2 ⟨ok9, List.forall_mem_cons.2 ⟨ok12, List.forall_mem_cons.2 ⟨ok16, List.forall_mem_cons.2 ⟨ok21, List.forall_mem_cons.2 ⟨ok26, fun _ h => absurd h List.not_mem_nil⟩⟩⟩⟩⟩⟩)), k27⟩
end Go.Proofs.YtoboobobndefgaaGreatDoor
