/-
  DERIVED. GIVEN WITH THE SEED: THE CARDS: each row of YtbhjnlilfidalaaDoorRows.lean that lists a variable, with what it lists TIED to the program's text (the seventh form; the later family's looks); each row that meets fmt, with fmt's text TOLD by the authors' own Lean function (tested against real Go, not proved from fmt's source: count such statements apart). THE CARD IS WHAT COUNTS. Prove the row's statement (the work); the ties are given (YtbhjnlilfidalaaDoorTie.lean); close each card by the builder's one call (the guide's Derived/Test/ToyasCard.lean, 'card_holds'). Laid BY PROGRAM, IN A SANDBOX (cutbox-door.mjs). By AI agents, Wed Nov 11 2026. No macro, syntax, notation, axiom, sorry.
-/
import Derived.Test.YtbhjnlilfidalaaDoorRows
import GoSem.ClaimSeven
namespace Go.Proofs.YtbhjnlilfidalaaDoor
namespace Rows

/-- THE TIED CARD OF 'triglyphlaw13.JlexBlanks'. -/
def jlexBlanksCard : Claim7 := { stood := { row := jlexBlanksRow, standIns := [], harness := (true, "329c34ed2ef949368cdc7b105bb59e5f2f3afeda524a1ba74d5ff2e1b9143191"), looks := false }, kinds := [], alts := [], laidByText := true, laidKinds := [.listed, .data], laidTests := true, laidLooks := .later }
def JlexBlanksCardSaid : Prop := Claim7.holds Tryd.pinned (.plain (OpenSpec.ofChange jlexBlanksSpec)) jlexBlanksCard

/-- THE TIED CARD OF 'triglyphlaw13.JlexPlaces'. -/
def jlexPlacesCard : Claim7 := { stood := { row := jlexPlacesRow, standIns := [], harness := (true, "329c34ed2ef949368cdc7b105bb59e5f2f3afeda524a1ba74d5ff2e1b9143191"), looks := false }, kinds := [], alts := [], laidByText := true, laidKinds := [.listed, .data], laidTests := true, laidLooks := .later }
def JlexPlacesCardSaid : Prop := Claim7.holds Tryd.pinned (.plain (OpenSpec.ofChange jlexPlacesSpec)) jlexPlacesCard

/-- THE TIED CARD OF 'triglyphlaw13.JlexApart'. -/
def jlexApartCard : Claim7 := { stood := { row := jlexApartRow, standIns := [], harness := (true, "329c34ed2ef949368cdc7b105bb59e5f2f3afeda524a1ba74d5ff2e1b9143191"), looks := false }, kinds := [], alts := [], laidByText := true, laidKinds := [.listed, .data], laidTests := true, laidLooks := .later }
def JlexApartCardSaid : Prop := Claim7.holds Tryd.pinned (.plain (OpenSpec.ofChange jlexApartSpec)) jlexApartCard

/-- THE TIED CARD OF 'triglyphlaw13.JlexTexts'. -/
def jlexTextsCard : Claim7 := { stood := { row := jlexTextsRow, standIns := [], harness := (true, "329c34ed2ef949368cdc7b105bb59e5f2f3afeda524a1ba74d5ff2e1b9143191"), looks := false }, kinds := [], alts := [], laidByText := true, laidKinds := [.listed, .data], laidTests := true, laidLooks := .later }
def JlexTextsCardSaid : Prop := Claim7.holds Tryd.pinned (.plain (OpenSpec.ofChange jlexTextsSpec)) jlexTextsCard

/-- THE SECOND FORM's CARD OF 'triglyphlaw13.JlexBlanks'. -/
def jlexBlanksUptoCard : Claim7 := { stood := { row := jlexBlanksUptoRow, standIns := [], harness := (true, "329c34ed2ef949368cdc7b105bb59e5f2f3afeda524a1ba74d5ff2e1b9143191"), looks := false }, kinds := [], alts := [], laidByText := true, laidKinds := [.listed, .data], laidTests := true, laidLooks := .later }
def JlexBlanksUptoCardSaid : Prop := Claim7.holds Tryd.pinned (.plain (OpenSpec.upto jlexBlanksSpec)) jlexBlanksUptoCard

/-- THE SECOND FORM's CARD OF 'triglyphlaw13.JlexPlaces'. -/
def jlexPlacesUptoCard : Claim7 := { stood := { row := jlexPlacesUptoRow, standIns := [], harness := (true, "329c34ed2ef949368cdc7b105bb59e5f2f3afeda524a1ba74d5ff2e1b9143191"), looks := false }, kinds := [], alts := [], laidByText := true, laidKinds := [.listed, .data], laidTests := true, laidLooks := .later }
def JlexPlacesUptoCardSaid : Prop := Claim7.holds Tryd.pinned (.plain (OpenSpec.upto jlexPlacesSpec)) jlexPlacesUptoCard

/-- THE SECOND FORM's CARD OF 'triglyphlaw13.JlexApart'. -/
def jlexApartUptoCard : Claim7 := { stood := { row := jlexApartUptoRow, standIns := [], harness := (true, "329c34ed2ef949368cdc7b105bb59e5f2f3afeda524a1ba74d5ff2e1b9143191"), looks := false }, kinds := [], alts := [], laidByText := true, laidKinds := [.listed, .data], laidTests := true, laidLooks := .later }
def JlexApartUptoCardSaid : Prop := Claim7.holds Tryd.pinned (.plain (OpenSpec.upto jlexApartSpec)) jlexApartUptoCard

/-- THE SECOND FORM's CARD OF 'triglyphlaw13.JlexTexts'. -/
def jlexTextsUptoCard : Claim7 := { stood := { row := jlexTextsUptoRow, standIns := [], harness := (true, "329c34ed2ef949368cdc7b105bb59e5f2f3afeda524a1ba74d5ff2e1b9143191"), looks := false }, kinds := [], alts := [], laidByText := true, laidKinds := [.listed, .data], laidTests := true, laidLooks := .later }
def JlexTextsUptoCardSaid : Prop := Claim7.holds Tryd.pinned (.plain (OpenSpec.upto jlexTextsSpec)) jlexTextsUptoCard
end Rows
end Go.Proofs.YtbhjnlilfidalaaDoor
