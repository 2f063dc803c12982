/- A world in which the rows' listed variables hold what the rows say. -/
import Derived.Test.YtoboobobndefgaaGreatDoorStart
import Derived.LaidHandle
import Derived.LaidMore
set_option linter.all false
namespace Go.Proofs.YtoboobobndefgaaGreatDoor
open Go Go.Ab Go.RowKit

/-- A world in which the listed variables hold what the rows say: what the program's own start lays, and Go's table of first bytes. -/
noncomputable def startWorld (os : Os) : World :=
  { World.doorLaid Tryz.prog 100 os with heap := (World.doorLaid Tryz.prog 100 os).heap.modify 2 fun
    | .cells _ t fr => .cells (Pinned.utf8FirstZ.map fun z => Value.int .u8 (.ofNat z)).toArray t fr
    | o => o }

theorem start_met (os : Os) (args : Array Value) : laidMetH Tryz.prog Rows.langCapsRow.laid ((startWorld os).forCall (fun _ _ => 0) ⟨#[], args, []⟩).memory :=
  laidMetH_of_parts3 (fuel := 8) (laidMet_of_run' 8 (by kernel_rfl) (by kernel_rfl)) (by kernel_rfl) (by kernel_rfl)

theorem start_shaped (os : Os) : ((startWorld os).forCall (fun _ _ => 0) ⟨#[], #[], []⟩).Shaped Tryz.prog := World.shaped_of_RefB (by kernel_rfl) (by kernel_rfl)
end Go.Proofs.YtoboobobndefgaaGreatDoor
