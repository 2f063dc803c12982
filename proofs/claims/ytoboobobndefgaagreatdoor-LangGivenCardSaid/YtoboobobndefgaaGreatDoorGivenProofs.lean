/- PROVED: eyotlaw22.LangGiven, called without arguments, returns true, in whatever world the listed variables hold what the program's text lays; nothing old is turned. Condition: the row's own (the listed variables; the card ties them to the text). -/
import Derived.Test.YtoboobobndefgaaGreatDoorGivenHolds
import Derived.Test.YtoboobobndefgaaGreatDoorCards
import Derived.Test.YtoboobobndefgaaGreatDoorTie
import Derived.SevenTiedAt
set_option linter.all false
namespace Go.Proofs.YtoboobobndefgaaGreatDoor.langGiven
open Go Go.ChangeShapes Go.WideShapes Go.ChangeAt Go.RowKit

/-- THE STATEMENT. -/
theorem proved : Rows.LangGivenCardSaid :=
  Claim7.holds_tied_plain_at .later [] [.data, .data, .data, .data, .sentinel, .sentinel, .pinned] true (true, "d8e5356705c542a7b54fd388e8dc76b1dd72defb0701388af40a10defed229c4") true
    holds (fun _ h => by cases h) (by kernel_rfl) (fun _ h => by cases h) langGiven_row_tie rfl ⟨rfl, rfl⟩ (by kernel_rfl) rfl
    (fun f fn hf hfn => by
      obtain rfl : f = 3 := Option.some.inj ((show Tryz.prog.funcNamed "eyot/eyotlaw22.LangGiven" = some 3 by kernel_rfl).symm.trans hf) |>.symm
      obtain rfl : fn = Tryz.f3 := (Option.some.inj (Tryz.func3.symm.trans hfn)).symm
      exact ⟨by kernel_rfl, fun j t ht => by
        rw [Tryz.params3] at ht
        simp at ht⟩)
    (by kernel_rfl)
#print axioms proved
end Go.Proofs.YtoboobobndefgaaGreatDoor.langGiven
