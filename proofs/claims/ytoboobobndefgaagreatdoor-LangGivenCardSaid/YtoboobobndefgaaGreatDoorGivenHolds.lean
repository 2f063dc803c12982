/- THE ROW (the card: GivenProofs): eyotlaw22.LangGiven, called without arguments, returns true, in whatever world the listed variables hold what the program's text lays; nothing old is turned. Condition: the row's own (the listed variables; the card ties them to the text). -/
import Derived.Test.YtoboobobndefgaaGreatDoorRow
import Derived.Test.YtoboobobndefgaaGreatDoorDoor
import Derived.Test.YtoboobobndefgaaGreatDoorGivenRuns
import Derived.Test.YtoboobobndefgaaGreatDoorRows
import Derived.WalkKit
import Derived.ProofKit
import Derived.OpenShut
set_option linter.all false
namespace Go.Proofs.YtoboobobndefgaaGreatDoor.langGiven
open Go Go.Ab Go.ChangeShapes Go.WideShapes Go.ChangeAt Go.RowKit
set_option linter.unusedVariables false

theorem walk (W : World) (ht : TabAt W) : Calls Tryz.prog 3 #[] W fun e W' => e = .returned (.bool true) ∧ Below W.heap.size W W' :=
  walk_of (e := e51) ok51 (by kernel_rfl) (by kernel_rfl) (by kernel_rfl) ht

set_option maxRecDepth 100000 in
theorem wit1 (os : Os) : Input.okWideB Tryz.checked.prog ((startWorld os).forCall (fun _ _ => 0) ⟨#[], #[], []⟩) 3 ⟨#[], #[], []⟩ = true := by kernel_rfl
set_option maxRecDepth 100000 in
theorem wit2 (os : Os) {H : Type} (enc : TypeId × Value → H) : Rows.langGivenSpec.preB enc Tryz.checked.prog Tryz.f3 Rows.langGivenRow.domain false ((startWorld os).forCall (fun _ _ => 0) ⟨#[], #[], []⟩).memory #[] 8 = true := by kernel_rfl
set_option maxRecDepth 100000 in
theorem wit3 (os : Os) {H : Type} (enc : TypeId × Value → H) : Rows.langGivenSpec.sizedB enc Tryz.checked.prog Tryz.f3 false ((startWorld os).forCall (fun _ _ => 0) ⟨#[], #[], []⟩).memory #[] 8 = true := by kernel_rfl

set_option maxRecDepth 100000 in
theorem lifted (os : Os) (started : os.Started) (H : Type) (enc : TypeId × Value → H) :
    ReturnsInHanded {} Tryz.checked os 3 .any (fun w args => (Rows.langGivenSpec.pre enc Tryz.prog Tryz.f3 Rows.langGivenRow.domain false w args ∧ laidMetH Tryz.prog Rows.langGivenRow.laid w) ∧ sizedMet enc Tryz.prog Tryz.f3 (OpenSpec.ofChange Rows.langGivenSpec) false w args)
      (Rows.langGivenSpec.post enc Tryz.prog Tryz.f3 false true false false) := by
  refine returnsInHanded_of_change_and (C := Tryz.checked) (X := fun w _ => laidMetH Tryz.prog Rows.langGivenRow.laid w) (fun _ _ _ hh h => h.of_heap hh) own started (by kernel_rfl) Tryz.func3
    (ChangeSpec.witness_shaped (enc := enc) (C := Tryz.checked) (os := os) (X := fun w _ => laidMetH Tryz.prog Rows.langGivenRow.laid w) false (startWorld os) #[] 8 rfl (start_shaped os) (wit1 os) (wit2 os enc) (wit3 os enc) (start_met os _)) ?_
  intro W base args ds gs before hval0 hW _ _ hL _
  have hW' := hW
  obtain ⟨p, q, hA0, hV, rfl, hfz, hnd⟩ := hW
  have hA : DataW.TrodAll enc Tryz.prog W 0 (fun _ => true) true Tryz.f3.params.toList args.toList ds p := hA0
  rw [Tryz.params3] at hA
  obtain ⟨rfl, rfl, rfl⟩ := trodAll_none hA
  obtain ⟨rfl, rfl⟩ := trodVars_none hV
  clear hA0 hval0
  simp only [List.append_nil] at hW'
  refine (walk W (laid_tab hL)).mono fun e W' ⟨he, hg⟩ => ?_
  subst he
  exact ⟨_, rfl, closed_post hW' (fun _ _ _ => (trodAll_cons_mk (shut_bool Tryz.underlying4 _) trodAll_mk0)) (fun _ => rfl) (fun _ => rfl) hg (ok_one (by kernel_rfl) rfl (okWide_bool_mk Tryz.underlying4 _))⟩

theorem holds : Rows.LangGivenSaid :=
  OpenClaim.holds_of_wide 3 Tryz.f3 rfl rfl rfl rfl rfl rfl rfl ⟨rfl, rfl, rfl, rfl, rfl⟩ rfl rfl rfl rfl rfl (by kernel_rfl) Tryz.func3 (by kernel_rfl)
    (of_decide_eq_true (by kernel_rfl)) (by unfold Func.isWrapper; first | (rw [if_pos (by decide +kernel)]; kernel_rfl) | (rw [if_neg (by decide +kernel)]; exact ⟨rfl, rfl⟩))
    (fun os started H enc _ => lifted os started H enc)

end Go.Proofs.YtoboobobndefgaaGreatDoor.langGiven
