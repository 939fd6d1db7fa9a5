/-
  hourbooklaw11.SegFlip returns true whatever the input, and the input reads as it did (the tied card). Its conditions are the card's own.
-/
import Derived.Test.YthodbnmeggkkoaaGreatDoorM6
import Derived.Test.YthodbnmeggkkoaaGreatDoorTie
import Derived.Test.YthodbnmeggkkoaaGreatDoorCards
import Derived.SevenTiedAt
namespace Go.Proofs.YthodbnmeggkkoaaGreatDoor
open Go

theorem segFlip_card_holds : Rows.SegFlipCardSaid :=
  Claim7.holds_tied_plain_at .later [] [.data, .data, .data, .data, .sentinel, .sentinel, .data] true (true, "aa1806a86be2107377780455041ef6787a0b00ebd30e03adbbc1809899c88e0c") true
    segFlip_holds (fun _ h => by cases h) (by kernel_rfl) (fun _ h => by cases h) segFlip_row_tie rfl ⟨rfl, rfl⟩ (by kernel_rfl) rfl
    (fun f fn hf hfn => by
      obtain rfl : f = 3 := Option.some.inj ((show Tryz.prog.funcNamed "hourbook/hourbooklaw11.SegFlip" = some 3 by kernel_rfl).symm.trans hf) |>.symm
      obtain rfl : fn = Tryz.f3 := (Option.some.inj (Tryz.func3.symm.trans hfn)).symm
      exact ⟨by kernel_rfl, fun j t ht => by
        rw [Tryz.params3] at ht
        have hm : t ∈ [22, 23, 5] := by simpa using Array.mem_of_getElem? ht
        have hall : ([22, 23, 5].all fun u => !Tryz.prog.wantsStandIn u) = true := by kernel_rfl
        exact (show Tryz.prog.wantsStandIn t = false by simpa using List.all_eq_true.1 hall t hm)⟩)
    (by kernel_rfl)
#print axioms segFlip_card_holds
end Go.Proofs.YthodbnmeggkkoaaGreatDoor
