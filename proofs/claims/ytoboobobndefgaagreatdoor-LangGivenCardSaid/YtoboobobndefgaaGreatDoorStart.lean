/- Where a statement's run starts: the world that the statement names stands for the evaluator's first heap. -/
import Derived.Test.YtoboobobndefgaaGreatDoorTable
import Derived.Test.YtoboobobndefgaaGreatDoorRows
import Derived.Lib.LaidTab
import Derived.Stop.LaidErr
import Derived.LaidMore
import Derived.ProofKit
set_option linter.all false
namespace Go.Proofs.YtoboobobndefgaaGreatDoor
open Go Go.Ab Go.RowKit

theorem follows : Tryz.prog.follows .mixedOrders = true := by kernel_rfl
theorem gsize : Tryz.prog.globals.size = 9 := by kernel_rfl

def tabZ : List Int := [0, 1, 56, 2, 57, 49, 28, 3, 61, 58, 42, 50, 38, 29, 17, 4, 62, 47, 59, 36, 45, 43, 51, 22, 53, 39, 33, 30, 24, 18, 12, 5, 63, 55, 48, 27, 60, 41, 37, 16, 46, 35, 44, 21, 52, 32, 23, 11, 54, 26, 40, 15, 34, 20, 31, 10, 25, 14, 19, 9, 13, 8, 7, 6]
noncomputable def tab : List Value := tabZ.map fun z => Value.int .u8 z
noncomputable def h0 : AH := ⟨layH [(0, tab)] heap0, 16⟩
def beta0 : Beta := fun x => if x < 9 then some ⟨x, 0, if x = 0 then 64 else 0⟩ else none

theorem tabZ_len : tabZ.length = 64 := rfl
theorem tab_len : tab.length = 64 := by simp [tab, tabZ_len]
theorem h0_get (b : Nat) (k : Blk) (h : h0.get b = some k) : b = 0 ∧ k = romB tab := by
  have e : h0.get b = _ := layH_get [(0, tab)] heap0 16 0 16 (by simp only [rising, tab_len]; rfl) (by omega) b
  rw [e, List.find?_cons] at h
  by_cases hb : b = 0
  · subst hb
    simp at h
    exact ⟨rfl, h.symm⟩
  · have : (((0, tab) : Nat × List Value).1 == b) = false := by simp; omega
    rw [this] at h
    simp only [List.find?_nil, heap0_get] at h
    exact nomatch h

theorem tab_at (β : Beta) (i : Nat) (hi : i < 64) : flat (tab.getD i undef) = true ∧ VRel β (tab.getD i undef) (tab.getD i undef) := by
  have : tab.getD i undef = .int .u8 (tabZ.getD i 0) := by
    have h1 : i < tabZ.length := by rw [tabZ_len]; exact hi
    simp [tab, List.getD, h1]
  rw [this]
  exact ⟨rfl, .int _ _⟩

/-- the table that the runs read -/
def TabAt (W : World) : Prop := ∃ cs el fr, W.heap[0]? = some (.cells cs el fr) ∧ cs = tab.toArray

theorem start_rel {W : World} (ht : TabAt W) : Rel W.heap.size W beta0 h0 W := by
  obtain ⟨cs, el, fr, h1, h2⟩ := ht
  refine ⟨fun b k hb => ?_, by show 16 ≤ 65001; omega, fun b hb => ?_, fun b k hb => ?_, fun b k e hb he => ?_, fun b k e hb he hm => ?_, fun b b' k k' e e' hb hb' _ _ _ => ?_, Nat.le_refl _, Below.refl _ _⟩
  · obtain ⟨rfl, rfl⟩ := h0_get b k hb; show 0 < 16; omega
  · have : 16 ≤ b := hb
    show (if b < 9 then _ else none) = none
    rw [if_neg (by omega)]
  · obtain ⟨rfl, rfl⟩ := h0_get b k hb; show tab.length ≤ 4096; rw [tab_len]; omega
  · obtain ⟨rfl, rfl⟩ := h0_get b k hb
    have : (⟨0, 0, 64⟩ : BE) = e := by simpa [beta0] using he
    subst this
    refine BRel.of_cells (k := romB tab) (fun x => x) ⟨by show 0 + tab.length ≤ 64; rw [tab_len]; omega, cs, el, fr, h1, by show cs.size = 64; rw [h2]; simp [tab_len], fun x => x.elim, fun i hi => ?_⟩
    have hi' : i < tab.length := hi
    rw [romB_at (by rw [tab_len]; omega) hi', h2]
    have := tab_at beta0 i (by rw [tab_len] at hi'; exact hi')
    show flat _ = true ∧ VRel _ _ (tab.toArray.getD (0 + i) undef)
    have e1 : tab.toArray.getD (0 + i) undef = tab.getD i undef := by simp [List.getD, Array.getD, hi']
    rw [e1]
    exact this
  · obtain ⟨rfl, rfl⟩ := h0_get b k hb; exact hm.elim
  · obtain ⟨rfl, _⟩ := h0_get b k hb; obtain ⟨rfl, _⟩ := h0_get b' k' hb'; rfl

theorem start_glob : GRel Tryz.prog.globals.size beta0 := fun x hx => by
  rw [gsize] at hx
  exact ⟨_, by show (if x < 9 then _ else none) = _; rw [if_pos hx]⟩

/-- A CALL WITHOUT ARGUMENTS that the table answers by 'true'. -/
theorem walk_of {e : Ent} (he : EntOK Tryz.prog e) (hv : e.v = .bool true) (hans : (e.ans [] h0).isSome = true) {W : World} (hb : (callFunc e.f ⟨[]⟩).run Tryz.prog W = .ok (.enter e.f ⟨[]⟩) W) (ht : TabAt W) :
    Calls Tryz.prog e.f #[] W fun en W' => en = .returned (.bool true) ∧ Below W.heap.size W W' := by
  obtain ⟨c, hc, hchk⟩ := he
  obtain ⟨x, hx⟩ := Option.isSome_iff_exists.1 hans
  obtain ⟨v, h', rfl⟩ := ans_ret hx
  have hv' : v = .bool true := by
    unfold Ent.ans at hx
    split at hx
    · cases hx; exact hv
    · exact nomatch hx
  subst hv'
  rcases ans_ok hc e hchk (start_rel ht) start_glob (args' := []) ⟨rfl, fun i hi => absurd hi (by simp)⟩ hx with ⟨v', β', w', h1, _, _⟩ | ⟨_, h2⟩
  · rw [hb] at h1; exact nomatch h1
  · exact h2.mono fun en w' ⟨v', β', he, hs, hr⟩ => by
      cases hr
      exact ⟨he, hs.rel.below⟩
end Go.Proofs.YtoboobobndefgaaGreatDoor
