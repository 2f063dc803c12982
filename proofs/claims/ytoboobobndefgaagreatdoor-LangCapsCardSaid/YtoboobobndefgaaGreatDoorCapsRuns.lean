/- All the calls that are worked out, each by what it asks of the table. Written by a program (wip/ab/tools/Gen.lean). -/
import Derived.Test.YtoboobobndefgaaGreatDoorStart
import Derived.Test.YtoboobobndefgaaGreatDoorCapsSmall
import Derived.Test.YtoboobobndefgaaGreatDoorCapsRun1
import Derived.Test.YtoboobobndefgaaGreatDoorCapsRun2
import Derived.Test.YtoboobobndefgaaGreatDoorCapsRun3
import Derived.Test.YtoboobobndefgaaGreatDoorCapsRun9
import Derived.Test.YtoboobobndefgaaGreatDoorCapsRun12
import Derived.Test.YtoboobobndefgaaGreatDoorCapsRun13
import Derived.Test.YtoboobobndefgaaGreatDoorCapsRun14
set_option linter.all false
namespace Go.Proofs.YtoboobobndefgaaGreatDoor
open Go Go.Ab
set_option maxRecDepth 100000

theorem ok0 : EntOK Tryz.prog e0 := ⟨_, callT_ok follows 61, k0⟩
theorem ok1 : EntOK Tryz.prog e1 := ⟨_, callT_ok follows 61, k1⟩
theorem ok2 : EntOK Tryz.prog e2 := ⟨_, callT_ok follows 61, k2⟩
theorem ok3 : EntOK Tryz.prog e3 := ⟨_, callT_ok follows 61, k3⟩
theorem k4 : e4.check (once Tryz.prog (orc [e0, e1, e2, e3] (callT Tryz.prog 60)) e4.f e4.args e4.start) = true := by kernel_rfl
theorem ok4 : EntOK Tryz.prog e4 := ⟨_, once_ok follows (orc_ok (callT_ok follows 60) _ (List.forall_mem_cons.2 ⟨ok0, List.forall_mem_cons.2 ⟨ok1, List.forall_mem_cons.2 ⟨ok2, List.forall_mem_cons.2 ⟨ok3, fun _ h => absurd h List.not_mem_nil⟩⟩⟩⟩)), k4⟩
theorem ok5 : EntOK Tryz.prog e5 := ⟨_, callT_ok follows 61, k5⟩
theorem k6 : e6.check (once Tryz.prog (orc [e5] (callT Tryz.prog 60)) e6.f e6.args e6.start) = true := by kernel_rfl
theorem ok6 : EntOK Tryz.prog e6 := ⟨_, once_ok follows (orc_ok (callT_ok follows 60) _ (List.forall_mem_cons.2 ⟨ok5, fun _ h => absurd h List.not_mem_nil⟩)), k6⟩
theorem k7 : e7.check (once Tryz.prog (orc [e4, e6] (callT Tryz.prog 60)) e7.f e7.args e7.start) = true := by kernel_rfl
theorem ok7 : EntOK Tryz.prog e7 := ⟨_, once_ok follows (orc_ok (callT_ok follows 60) _ (List.forall_mem_cons.2 ⟨ok4, List.forall_mem_cons.2 ⟨ok6, fun _ h => absurd h List.not_mem_nil⟩⟩)), k7⟩
theorem ok8 : EntOK Tryz.prog e8 := ⟨_, callT_ok follows 61, k8⟩
theorem ok9 : EntOK Tryz.prog e9 := ⟨_, callT_ok follows 61, k9⟩
theorem k10 : e10.check (once Tryz.prog (orc [e8, e9] (callT Tryz.prog 60)) e10.f e10.args e10.start) = true := by kernel_rfl
theorem ok10 : EntOK Tryz.prog e10 := ⟨_, once_ok follows (orc_ok (callT_ok follows 60) _ (List.forall_mem_cons.2 ⟨ok8, List.forall_mem_cons.2 ⟨ok9, fun _ h => absurd h List.not_mem_nil⟩⟩)), k10⟩
theorem ok11 : EntOK Tryz.prog e11 := ⟨_, callT_ok follows 61, k11⟩
theorem ok12 : EntOK Tryz.prog e12 := ⟨_, callT_ok follows 61, k12⟩
theorem ok13 : EntOK Tryz.prog e13 := ⟨_, callT_ok follows 61, k13⟩
theorem ok14 : EntOK Tryz.prog e14 := ⟨_, callT_ok follows 61, k14⟩
theorem k15 : e15.check (once Tryz.prog (orc [e11, e12, e13, e14] (callT Tryz.prog 60)) e15.f e15.args e15.start) = true := by kernel_rfl
theorem ok15 : EntOK Tryz.prog e15 := ⟨_, once_ok follows (orc_ok (callT_ok follows 60) _ (List.forall_mem_cons.2 ⟨ok11, List.forall_mem_cons.2 ⟨ok12, List.forall_mem_cons.2 ⟨ok13, List.forall_mem_cons.2 ⟨ok14, fun _ h => absurd h List.not_mem_nil⟩⟩⟩⟩)), k15⟩
theorem k16 : e16.check (once Tryz.prog (orc [e7, e10, e15] (callT Tryz.prog 60)) e16.f e16.args e16.start) = true := by kernel_rfl
theorem ok16 : EntOK Tryz.prog e16 := ⟨_, once_ok follows (orc_ok (callT_ok follows 60) _ (List.forall_mem_cons.2 ⟨ok7, List.forall_mem_cons.2 ⟨ok10, List.forall_mem_cons.2 ⟨ok15, fun _ h => absurd h List.not_mem_nil⟩⟩⟩)), k16⟩
end Go.Proofs.YtoboobobndefgaaGreatDoor
