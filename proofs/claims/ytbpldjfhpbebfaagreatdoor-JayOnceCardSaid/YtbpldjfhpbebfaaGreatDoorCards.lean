/-
  DERIVED. GIVEN WITH THE SEED: THE CARDS: each row of YtbpldjfhpbebfaaGreatDoorRows.lean that lists a variable, with what it lists TIED to the program's text (the seventh form; the later family's looks); each row that meets fmt, with fmt's text TOLD by the authors' own Lean function (tested against real Go, not proved from fmt's source: count such statements apart). THE CARD IS WHAT COUNTS. Prove the row's statement (the work); the ties are given (YtbpldjfhpbebfaaGreatDoorTie.lean); close each card by the builder's one call (the guide's Derived/Test/ToyasCard.lean, 'card_holds'). Laid BY PROGRAM, IN A SANDBOX (cutbox-door.mjs). By AI agents, Wed Nov 11 2026. No macro, syntax, notation, axiom, sorry.
-/
import Derived.Test.YtbpldjfhpbebfaaGreatDoorRows
import GoSem.ClaimSeven
namespace Go.Proofs.YtbpldjfhpbebfaaGreatDoor
namespace Rows

/-- THE TIED CARD OF 'triglyphlaw18.JayOnce'. -/
def jayOnceCard : Claim7 := { stood := { row := jayOnceRow, standIns := [], harness := (true, "4bd434b54dab64a3d2605c2dab3fa73ae1ebf9cdbf70a6bd569dad62414c7d48"), looks := true }, kinds := [], alts := [], laidByText := true, laidKinds := [.listed, .data], laidTests := true, laidLooks := .later }
def JayOnceCardSaid : Prop := Claim7.holds Tryz.pinned (.plain (OpenSpec.ofChange jayOnceSpec)) jayOnceCard

/-- THE SECOND FORM's CARD OF 'triglyphlaw18.JayOnce'. -/
def jayOnceUptoCard : Claim7 := { stood := { row := jayOnceUptoRow, standIns := [], harness := (true, "4bd434b54dab64a3d2605c2dab3fa73ae1ebf9cdbf70a6bd569dad62414c7d48"), looks := true }, kinds := [], alts := [], laidByText := true, laidKinds := [.listed, .data], laidTests := true, laidLooks := .later }
def JayOnceUptoCardSaid : Prop := Claim7.holds Tryz.pinned (.plain (OpenSpec.upto jayOnceSpec)) jayOnceUptoCard
end Rows
end Go.Proofs.YtbpldjfhpbebfaaGreatDoor
