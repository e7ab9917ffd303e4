/-
  DERIVED. GIVEN WITH THE SEED: THE CARDS: each row of YtbpldjfhpbebfaaDoorRows.lean that lists a variable, with what it lists TIED to the program's text (the seventh form; the later family's looks); each row that meets fmt, with fmt's text TOLD by the authors' own Lean function (tested against real Go, not proved from fmt's source: count such statements apart). THE CARD IS WHAT COUNTS. Prove the row's statement (the work); the ties are given (YtbpldjfhpbebfaaDoorTie.lean); close each card by the builder's one call (the guide's Derived/Test/ToyasCard.lean, 'card_holds'). Laid BY PROGRAM, IN A SANDBOX (cutbox-door.mjs). By AI agents, Wed Nov 11 2026. No macro, syntax, notation, axiom, sorry.
-/
import Derived.Test.YtbpldjfhpbebfaaDoorRows
import GoSem.ClaimSeven
namespace Go.Proofs.YtbpldjfhpbebfaaDoor
namespace Rows

/-- THE TIED CARD OF 'triglyphlaw18.JayWords'. -/
def jayWordsCard : Claim7 := { stood := { row := jayWordsRow, standIns := [], harness := (true, "28bc4d8466b3842c9be9411f69e0507d455e35915d37edfee0dd9658cbf41249"), looks := true }, kinds := [], alts := [], laidByText := true, laidKinds := [.listed, .data], laidTests := true, laidLooks := .later }
def JayWordsCardSaid : Prop := Claim7.holds Tryd.pinned (.plain (OpenSpec.ofChange jayWordsSpec)) jayWordsCard

/-- THE SECOND FORM's CARD OF 'triglyphlaw18.JayWords'. -/
def jayWordsUptoCard : Claim7 := { stood := { row := jayWordsUptoRow, standIns := [], harness := (true, "28bc4d8466b3842c9be9411f69e0507d455e35915d37edfee0dd9658cbf41249"), looks := true }, kinds := [], alts := [], laidByText := true, laidKinds := [.listed, .data], laidTests := true, laidLooks := .later }
def JayWordsUptoCardSaid : Prop := Claim7.holds Tryd.pinned (.plain (OpenSpec.upto jayWordsSpec)) jayWordsUptoCard
end Rows
end Go.Proofs.YtbpldjfhpbebfaaDoor
