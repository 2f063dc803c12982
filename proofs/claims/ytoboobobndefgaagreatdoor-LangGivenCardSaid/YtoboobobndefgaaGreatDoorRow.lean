/- What a row without arguments asks, and a world in which it starts. -/
import Derived.Test.YtoboobobndefgaaGreatDoorStart
import Derived.Below
import Derived.ChangeSame
import Derived.WalkKit
import Derived.OpenShut
import Derived.LaidHandle
import Derived.MakeChecks
set_option linter.all false
namespace Go.Proofs.YtoboobobndefgaaGreatDoor
open Go Go.Ab Go.ChangeShapes Go.WideShapes Go.ChangeAt Go.RowKit

theorem own : ownKnob Tryz.prog.godebug = none := by kernel_rfl

/-- The list of what the variables hold, as each of the three rows has it. -/
theorem laid_alike : Rows.langFirstRow.laid = Rows.langCapsRow.laid ∧ Rows.langGivenRow.laid = Rows.langCapsRow.laid := ⟨rfl, rfl⟩

theorem tab_data : (Rows.laid_math_bits_deBruijn64tab : DataW Unit) = Lib.tabData .u8 tabZ := by kernel_rfl

theorem laid_tab {W : World} (h : laidMetH Tryz.prog Rows.langCapsRow.laid W) : TabAt W := by
  have e : laidMetH Tryz.prog Rows.langCapsRow.laid W = laidMet Tryz.prog Rows.langCapsRow.laid W := by rw [MakeChecks.laidMetH_plain _ _ _ (by kernel_rfl)]
  rw [e] at h
  have h2 := laidMet.tail h
  rw [tab_data] at h2
  have h3 : Lib.TabIs Tryz.prog W "math/bits.deBruijn64tab" .u8 tabZ := Lib.tabIs_of_head (g := 0) (t := 289) (e := (match Tryz.prog.underlying 289 with | some (.array _ e) => e | _ => 0)) (n := 64) (by kernel_rfl) (by kernel_rfl) (by kernel_rfl) (by kernel_rfl) (by kernel_rfl) (by kernel_rfl) h2
  have hg : Tryz.prog.globalNamed "math/bits.deBruijn64tab" = some 0 := by kernel_rfl
  unfold Lib.TabIs World.var? at h3
  rw [hg] at h3
  simp only [Option.bind_some] at h3
  split at h3
  · rename_i cs el fr hh
    exact ⟨cs, el, fr, hh, Option.some.inj h3⟩
  · exact nomatch h3

section
variable {H : Type} {enc : TypeId × Value → H} {P : Program}
/-- What is behind a call without arguments that makes nothing but new blocks. -/
theorem closed_post {f : Func} {s : ChangeSpec} {apart fresh handsOn again : Bool} {W W' : World} {args : Array Value} {v : Value} {gs : List (DataW H)}
    (hW : DataW.Whole enc P f.params.toList s.vars apart W args.toList [] gs [])
    (hres : ∀ (b : Nat) (sp : Nat → Bool) (hd : Bool), DataW.TrodAll enc P W' b sp hd f.resultTypes.toList (v.resultList f.resultTypes.size) (s.fn H ([] ++ gs)).results [])
    (hargs : ∀ sp : Nat → Bool, DataW.TrodAll enc P W' 0 sp true f.params.toList args.toList (s.fn H ([] ++ gs)).args [])
    (hvars : ∀ sp : Nat → Bool, DataW.TrodVars enc P W' sp s.vars (s.fn H ([] ++ gs)).vars [])
    (hb : Below W.heap.size W W')
    (hok : ∀ (j : Nat) (t : TypeId) (r : Value), f.resultTypes[j]? = some t → (v.resultList f.resultTypes.size)[j]? = some r → Value.okWide P W' .any 0 t r) :
    s.post enc P f apart fresh handsOn again W args v W' :=
  ⟨[], gs, [], [], [], [], hW, hres _ _ _, hargs _, hvars _, World.keptBut_mono (fun _ hp => hp.elim) (hb.frame (fun _ => False)), fun _ =>
    ⟨hok, _, _, [], ⟨[], [], trodAll_append (hargs _) (hres _ _ _), hvars _, rfl, fun _ _ hp => absurd hp List.not_mem_nil, fun _ => List.nodup_nil⟩, fun _ hp _ => hp⟩⟩
end
end Go.Proofs.YtoboobobndefgaaGreatDoor
