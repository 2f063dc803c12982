/- All the calls that are worked out, each by what it asks of the table. Written by a program (wip/ab/tools/Gen.lean). -/
import Derived.Test.YtoboobobndefgaaGreatDoorStart
import Derived.Test.YtoboobobndefgaaGreatDoorGivenSmall
import Derived.Test.YtoboobobndefgaaGreatDoorGivenRun1
import Derived.Test.YtoboobobndefgaaGreatDoorGivenRun2
import Derived.Test.YtoboobobndefgaaGreatDoorGivenRun3
import Derived.Test.YtoboobobndefgaaGreatDoorGivenRun9
import Derived.Test.YtoboobobndefgaaGreatDoorGivenRun10
import Derived.Test.YtoboobobndefgaaGreatDoorGivenRun11
import Derived.Test.YtoboobobndefgaaGreatDoorGivenRun14
import Derived.Test.YtoboobobndefgaaGreatDoorGivenRun15
import Derived.Test.YtoboobobndefgaaGreatDoorGivenRun16
import Derived.Test.YtoboobobndefgaaGreatDoorGivenRun19
import Derived.Test.YtoboobobndefgaaGreatDoorGivenRun20
import Derived.Test.YtoboobobndefgaaGreatDoorGivenRun21
import Derived.Test.YtoboobobndefgaaGreatDoorGivenRun23
import Derived.Test.YtoboobobndefgaaGreatDoorGivenRun26
import Derived.Test.YtoboobobndefgaaGreatDoorGivenRun27
import Derived.Test.YtoboobobndefgaaGreatDoorGivenRun28
import Derived.Test.YtoboobobndefgaaGreatDoorGivenRun31
import Derived.Test.YtoboobobndefgaaGreatDoorGivenRun32
import Derived.Test.YtoboobobndefgaaGreatDoorGivenRun33
import Derived.Test.YtoboobobndefgaaGreatDoorGivenRun36
import Derived.Test.YtoboobobndefgaaGreatDoorGivenRun37
import Derived.Test.YtoboobobndefgaaGreatDoorGivenRun42
import Derived.Test.YtoboobobndefgaaGreatDoorGivenRun43
import Derived.Test.YtoboobobndefgaaGreatDoorGivenRun44
import Derived.Test.YtoboobobndefgaaGreatDoorGivenRun47
import Derived.Test.YtoboobobndefgaaGreatDoorGivenRun48
import Derived.Test.YtoboobobndefgaaGreatDoorGivenRun49
set_option linter.all false
namespace Go.Proofs.YtoboobobndefgaaGreatDoor
open Go Go.Ab
set_option maxRecDepth 100000

theorem ok0 : EntOK Tryz.prog e0 := ⟨_, callT_ok follows 61, k0⟩
theorem ok1 : EntOK Tryz.prog e1 := ⟨_, callT_ok follows 61, k1⟩
theorem ok2 : EntOK Tryz.prog e2 := ⟨_, callT_ok follows 61, k2⟩
theorem ok3 : EntOK Tryz.prog e3 := ⟨_, callT_ok follows 61, k3⟩
theorem k4 : e4.check (once Tryz.prog (orc [e0, e1, e2, e3] (callT Tryz.prog 60)) e4.f e4.args e4.start) = true := by kernel_rfl
theorem ok4 : EntOK Tryz.prog e4 := ⟨_, once_ok follows (orc_ok (callT_ok follows 60) _ (List.forall_mem_cons.2 ⟨ok0, List.forall_mem_cons.2 ⟨ok1, List.forall_mem_cons.2 ⟨ok2, List.forall_mem_cons.2 ⟨ok3, fun _ h => absurd h List.not_mem_nil⟩⟩⟩⟩)), k4⟩
theorem ok5 : EntOK Tryz.prog e5 := ⟨_, callT_ok follows 61, k5⟩
theorem k6 : e6.check (once Tryz.prog (orc [e5] (callT Tryz.prog 60)) e6.f e6.args e6.start) = true := by kernel_rfl
theorem ok6 : EntOK Tryz.prog e6 := ⟨_, once_ok follows (orc_ok (callT_ok follows 60) _ (List.forall_mem_cons.2 ⟨ok5, fun _ h => absurd h List.not_mem_nil⟩)), k6⟩
theorem k7 : e7.check (once Tryz.prog (orc [e4, e6] (callT Tryz.prog 60)) e7.f e7.args e7.start) = true := by kernel_rfl
theorem ok7 : EntOK Tryz.prog e7 := ⟨_, once_ok follows (orc_ok (callT_ok follows 60) _ (List.forall_mem_cons.2 ⟨ok4, List.forall_mem_cons.2 ⟨ok6, fun _ h => absurd h List.not_mem_nil⟩⟩)), k7⟩
theorem ok8 : EntOK Tryz.prog e8 := ⟨_, callT_ok follows 61, k8⟩
theorem ok9 : EntOK Tryz.prog e9 := ⟨_, callT_ok follows 61, k9⟩
theorem ok10 : EntOK Tryz.prog e10 := ⟨_, callT_ok follows 61, k10⟩
theorem ok11 : EntOK Tryz.prog e11 := ⟨_, callT_ok follows 61, k11⟩
theorem k12 : e12.check (once Tryz.prog (orc [e8, e9, e10, e11] (callT Tryz.prog 60)) e12.f e12.args e12.start) = true := by kernel_rfl
theorem ok12 : EntOK Tryz.prog e12 := ⟨_, once_ok follows (orc_ok (callT_ok follows 60) _ (List.forall_mem_cons.2 ⟨ok8, List.forall_mem_cons.2 ⟨ok9, List.forall_mem_cons.2 ⟨ok10, List.forall_mem_cons.2 ⟨ok11, fun _ h => absurd h List.not_mem_nil⟩⟩⟩⟩)), k12⟩
theorem ok13 : EntOK Tryz.prog e13 := ⟨_, callT_ok follows 61, k13⟩
theorem ok14 : EntOK Tryz.prog e14 := ⟨_, callT_ok follows 61, k14⟩
theorem ok15 : EntOK Tryz.prog e15 := ⟨_, callT_ok follows 61, k15⟩
theorem ok16 : EntOK Tryz.prog e16 := ⟨_, callT_ok follows 61, k16⟩
theorem k17 : e17.check (once Tryz.prog (orc [e13, e14, e15, e16] (callT Tryz.prog 60)) e17.f e17.args e17.start) = true := by kernel_rfl
theorem ok17 : EntOK Tryz.prog e17 := ⟨_, once_ok follows (orc_ok (callT_ok follows 60) _ (List.forall_mem_cons.2 ⟨ok13, List.forall_mem_cons.2 ⟨ok14, List.forall_mem_cons.2 ⟨ok15, List.forall_mem_cons.2 ⟨ok16, fun _ h => absurd h List.not_mem_nil⟩⟩⟩⟩)), k17⟩
theorem ok18 : EntOK Tryz.prog e18 := ⟨_, callT_ok follows 61, k18⟩
theorem ok19 : EntOK Tryz.prog e19 := ⟨_, callT_ok follows 61, k19⟩
theorem ok20 : EntOK Tryz.prog e20 := ⟨_, callT_ok follows 61, k20⟩
theorem ok21 : EntOK Tryz.prog e21 := ⟨_, callT_ok follows 61, k21⟩
theorem k22 : e22.check (once Tryz.prog (orc [e20, e21] (callT Tryz.prog 60)) e22.f e22.args e22.start) = true := by kernel_rfl
theorem ok22 : EntOK Tryz.prog e22 := ⟨_, once_ok follows (orc_ok (callT_ok follows 60) _ (List.forall_mem_cons.2 ⟨ok20, List.forall_mem_cons.2 ⟨ok21, fun _ h => absurd h List.not_mem_nil⟩⟩)), k22⟩
theorem ok23 : EntOK Tryz.prog e23 := ⟨_, callT_ok follows 61, k23⟩
theorem k24 : e24.check (once Tryz.prog (orc [e18, e19, e22, e23] (callT Tryz.prog 60)) e24.f e24.args e24.start) = true := by kernel_rfl
theorem ok24 : EntOK Tryz.prog e24 := ⟨_, once_ok follows (orc_ok (callT_ok follows 60) _ (List.forall_mem_cons.2 ⟨ok18, List.forall_mem_cons.2 ⟨ok19, List.forall_mem_cons.2 ⟨ok22, List.forall_mem_cons.2 ⟨ok23, fun _ h => absurd h List.not_mem_nil⟩⟩⟩⟩)), k24⟩
theorem ok25 : EntOK Tryz.prog e25 := ⟨_, callT_ok follows 61, k25⟩
theorem ok26 : EntOK Tryz.prog e26 := ⟨_, callT_ok follows 61, k26⟩
theorem ok27 : EntOK Tryz.prog e27 := ⟨_, callT_ok follows 61, k27⟩
theorem ok28 : EntOK Tryz.prog e28 := ⟨_, callT_ok follows 61, k28⟩
theorem k29 : e29.check (once Tryz.prog (orc [e25, e26, e27, e28] (callT Tryz.prog 60)) e29.f e29.args e29.start) = true := by kernel_rfl
theorem ok29 : EntOK Tryz.prog e29 := ⟨_, once_ok follows (orc_ok (callT_ok follows 60) _ (List.forall_mem_cons.2 ⟨ok25, List.forall_mem_cons.2 ⟨ok26, List.forall_mem_cons.2 ⟨ok27, List.forall_mem_cons.2 ⟨ok28, fun _ h => absurd h List.not_mem_nil⟩⟩⟩⟩)), k29⟩
theorem ok30 : EntOK Tryz.prog e30 := ⟨_, callT_ok follows 61, k30⟩
theorem ok31 : EntOK Tryz.prog e31 := ⟨_, callT_ok follows 61, k31⟩
theorem ok32 : EntOK Tryz.prog e32 := ⟨_, callT_ok follows 61, k32⟩
theorem ok33 : EntOK Tryz.prog e33 := ⟨_, callT_ok follows 61, k33⟩
theorem k34 : e34.check (once Tryz.prog (orc [e30, e31, e32, e33] (callT Tryz.prog 60)) e34.f e34.args e34.start) = true := by kernel_rfl
theorem ok34 : EntOK Tryz.prog e34 := ⟨_, once_ok follows (orc_ok (callT_ok follows 60) _ (List.forall_mem_cons.2 ⟨ok30, List.forall_mem_cons.2 ⟨ok31, List.forall_mem_cons.2 ⟨ok32, List.forall_mem_cons.2 ⟨ok33, fun _ h => absurd h List.not_mem_nil⟩⟩⟩⟩)), k34⟩
theorem ok35 : EntOK Tryz.prog e35 := ⟨_, callT_ok follows 61, k35⟩
theorem ok36 : EntOK Tryz.prog e36 := ⟨_, callT_ok follows 61, k36⟩
theorem ok37 : EntOK Tryz.prog e37 := ⟨_, callT_ok follows 61, k37⟩
theorem k38 : e38.check (once Tryz.prog (orc [e35, e36, e37] (callT Tryz.prog 60)) e38.f e38.args e38.start) = true := by kernel_rfl
theorem ok38 : EntOK Tryz.prog e38 := ⟨_, once_ok follows (orc_ok (callT_ok follows 60) _ (List.forall_mem_cons.2 ⟨ok35, List.forall_mem_cons.2 ⟨ok36, List.forall_mem_cons.2 ⟨ok37, fun _ h => absurd h List.not_mem_nil⟩⟩⟩)), k38⟩
theorem ok39 : EntOK Tryz.prog e39 := ⟨_, callT_ok follows 61, k39⟩
theorem k40 : e40.check (once Tryz.prog (orc [e39] (callT Tryz.prog 60)) e40.f e40.args e40.start) = true := by kernel_rfl
theorem ok40 : EntOK Tryz.prog e40 := ⟨_, once_ok follows (orc_ok (callT_ok follows 60) _ (List.forall_mem_cons.2 ⟨ok39, fun _ h => absurd h List.not_mem_nil⟩)), k40⟩
theorem ok41 : EntOK Tryz.prog e41 := ⟨_, callT_ok follows 61, k41⟩
theorem ok42 : EntOK Tryz.prog e42 := ⟨_, callT_ok follows 61, k42⟩
theorem ok43 : EntOK Tryz.prog e43 := ⟨_, callT_ok follows 61, k43⟩
theorem ok44 : EntOK Tryz.prog e44 := ⟨_, callT_ok follows 61, k44⟩
theorem k45 : e45.check (once Tryz.prog (orc [e41, e42, e43, e44] (callT Tryz.prog 60)) e45.f e45.args e45.start) = true := by kernel_rfl
theorem ok45 : EntOK Tryz.prog e45 := ⟨_, once_ok follows (orc_ok (callT_ok follows 60) _ (List.forall_mem_cons.2 ⟨ok41, List.forall_mem_cons.2 ⟨ok42, List.forall_mem_cons.2 ⟨ok43, List.forall_mem_cons.2 ⟨ok44, fun _ h => absurd h List.not_mem_nil⟩⟩⟩⟩)), k45⟩
theorem ok46 : EntOK Tryz.prog e46 := ⟨_, callT_ok follows 61, k46⟩
theorem ok47 : EntOK Tryz.prog e47 := ⟨_, callT_ok follows 61, k47⟩
theorem ok48 : EntOK Tryz.prog e48 := ⟨_, callT_ok follows 61, k48⟩
theorem ok49 : EntOK Tryz.prog e49 := ⟨_, callT_ok follows 61, k49⟩
theorem k50 : e50.check (once Tryz.prog (orc [e46, e47, e48, e49] (callT Tryz.prog 60)) e50.f e50.args e50.start) = true := by kernel_rfl
theorem ok50 : EntOK Tryz.prog e50 := ⟨_, once_ok follows (orc_ok (callT_ok follows 60) _ (List.forall_mem_cons.2 ⟨ok46, List.forall_mem_cons.2 ⟨ok47, List.forall_mem_cons.2 ⟨ok48, List.forall_mem_cons.2 ⟨ok49, fun _ h => absurd h List.not_mem_nil⟩⟩⟩⟩)), k50⟩
theorem k51 : e51.check (once Tryz.prog (orc [e7, e4, e12, e17, e24, e29, e34, e38, e40, e45, e50] (callT Tryz.prog 60)) e51.f e51.args e51.start) = true := by kernel_rfl
theorem ok51 : EntOK Tryz.prog e51 := ⟨_, once_ok follows (orc_ok (callT_ok follows 60) _ (List.forall_mem_cons.2 ⟨ok7, List.forall_mem_cons.2 ⟨ok4, List.forall_mem_cons.2 ⟨ok12, List.forall_mem_cons.2 ⟨ok17, List.forall_mem_cons.2 ⟨ok24, List.forall_mem_cons.2 ⟨ok29, List.forall_mem_cons.2 ⟨ok34, List.forall_mem_cons.2 ⟨ok38, List.forall_mem_cons.2 ⟨ok40, List.forall_mem_cons.2 ⟨ok45, List.forall_mem_cons.2 ⟨ok50, fun _ h => absurd h List.not_mem_nil⟩⟩⟩⟩⟩⟩⟩⟩⟩⟩⟩)), k51⟩
end Go.Proofs.YtoboobobndefgaaGreatDoor
