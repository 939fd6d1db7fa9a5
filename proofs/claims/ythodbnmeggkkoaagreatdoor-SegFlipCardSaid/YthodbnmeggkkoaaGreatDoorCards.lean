/-
  DERIVED. GIVEN WITH THE SEED: THE CARDS: each row of YthodbnmeggkkoaaGreatDoorRows.lean that lists a variable, with what it lists TIED to the program's text (the seventh form; the later family's looks); each row that meets fmt, with fmt's text TOLD by the authors' own Lean function (tested against real Go, not proved from fmt's source: count such statements apart). THE CARD IS WHAT COUNTS. Prove the row's statement (the work); the ties are given (YthodbnmeggkkoaaGreatDoorTie.lean); close each card by the builder's one call (the guide's Derived/Test/ToyasCard.lean, 'card_holds'). Laid BY PROGRAM, IN A SANDBOX (cutbox-door.mjs). By AI agents, Wed Nov 11 2026. No macro, syntax, notation, axiom, sorry.
-/
import Derived.Test.YthodbnmeggkkoaaGreatDoorRows
import GoSem.ClaimSeven
namespace Go.Proofs.YthodbnmeggkkoaaGreatDoor
namespace Rows

/-- THE TIED CARD OF 'hourbooklaw11.SegFlip'. -/
def segFlipCard : Claim7 := { stood := { row := segFlipRow, standIns := [], harness := (true, "aa1806a86be2107377780455041ef6787a0b00ebd30e03adbbc1809899c88e0c"), looks := true }, kinds := [], alts := [], laidByText := true, laidKinds := [.data, .data, .data, .data, .sentinel, .sentinel, .data], laidTests := true, laidLooks := .later }
def SegFlipCardSaid : Prop := Claim7.holds Tryz.pinned (.plain (OpenSpec.ofChange segFlipSpec)) segFlipCard

/-- THE TIED CARD OF 'hourbooklaw11.SegCrash'. -/
def segCrashCard : Claim7 := { stood := { row := segCrashRow, standIns := [], harness := (true, "aa1806a86be2107377780455041ef6787a0b00ebd30e03adbbc1809899c88e0c"), looks := true }, kinds := [], alts := [], laidByText := true, laidKinds := [.data, .data, .data, .data, .sentinel, .sentinel, .data], laidTests := true, laidLooks := .later }
def SegCrashCardSaid : Prop := Claim7.holds Tryz.pinned (.plain (OpenSpec.ofChange segCrashSpec)) segCrashCard

/-- THE SECOND FORM's CARD OF 'hourbooklaw11.SegFlip'. -/
def segFlipUptoCard : Claim7 := { stood := { row := segFlipUptoRow, standIns := [], harness := (true, "aa1806a86be2107377780455041ef6787a0b00ebd30e03adbbc1809899c88e0c"), looks := true }, kinds := [], alts := [], laidByText := true, laidKinds := [.data, .data, .data, .data, .sentinel, .sentinel, .data], laidTests := true, laidLooks := .later }
def SegFlipUptoCardSaid : Prop := Claim7.holds Tryz.pinned (.plain (OpenSpec.upto segFlipSpec)) segFlipUptoCard

/-- THE SECOND FORM's CARD OF 'hourbooklaw11.SegCrash'. -/
def segCrashUptoCard : Claim7 := { stood := { row := segCrashUptoRow, standIns := [], harness := (true, "aa1806a86be2107377780455041ef6787a0b00ebd30e03adbbc1809899c88e0c"), looks := true }, kinds := [], alts := [], laidByText := true, laidKinds := [.data, .data, .data, .data, .sentinel, .sentinel, .data], laidTests := true, laidLooks := .later }
def SegCrashUptoCardSaid : Prop := Claim7.holds Tryz.pinned (.plain (OpenSpec.upto segCrashSpec)) segCrashUptoCard
end Rows
end Go.Proofs.YthodbnmeggkkoaaGreatDoor
