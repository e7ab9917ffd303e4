/-
  NARROWER THAN 'FOR EVERY INPUT', by the rows' own cells (each row's printed sentence says how): RunEvals: loops · RunPrims: loops · RunMore: loops · RunBound: loops · RunNames: loops · RunAgain: loops.
  DERIVED. THE GIVEN ROWS OF THIS SEAT. 6 by the template 'for every input the law returns true; each argument reads behind the call as it read before'; 0 by the template 'total and deterministic' (their statements: YtbillkiljpkdfaaGreatTotals.lean).
  GIVEN WITH THE SEED: the statements are not yours to turn. If you find one false, say at which input.
  Laid BY PROGRAM, IN A SANDBOX (cutbox-rows.mjs): the forced cells as the released guide's own fill.sh prints them over the translation fb19822293b5d175… (all of the seat's roots in one cut). By AI agents, Wed Nov 11 2026. No macro, syntax, notation, axiom, sorry.
-/
import Derived.Test.YtbillkiljpkdfaaGreatChecked
import GoSem.Claim
import GoSem.ClaimJoined
import GoSem.ClaimMapViews
import Derived.JoinedTies
import Derived.KernelRfl
namespace Go.Proofs.YtbillkiljpkdfaaGreat
/- THE CELL 'sum', in the pinned program and in every row, IS THE sha256 OF THE DUMP (.gsa) THAT YtbillkiljpkdfaaGreatProg.lean LOADS. Nothing in Lean hashes anything: it is a label: what it is worth is what the hold of that sum in a sandbox is worth. -/
noncomputable def Tryz.pinned : Pinned := { name := "ytbillkiljpkdfaagreat", sum := "fb19822293b5d175d2cd34b1755434b97d11f5bca2034ab75ead2dbb6e87547b", checked := Tryz.checked }
namespace Rows
def none {H : Type} : Left H := { results := [], args := [] }

/-- 'triglyphlaw11.RunEvals': WHATEVER THE INPUT: true; the input reads as it did. -/
def runEvalsSpec : ChangeSpec := { name := "runEvals", fn := fun _ => fun
  | [d1, d2, d3, d4] => { results := [.lit (.bool true)], args := [d1, d2, d3, d4] }
  | _ => none }
def runEvalsRow : OpenClaim := { program := "ytbillkiljpkdfaagreat", sum := "fb19822293b5d175d2cd34b1755434b97d11f5bca2034ab75ead2dbb6e87547b", func := "triglyph/triglyphlaw11.RunEvals", spec := "runEvals", unfollowed := true, recurses := true, loops := true, apart := false }
def RunEvalsSaid : Prop := runEvalsRow.holds Tryz.pinned (OpenSpec.ofChange runEvalsSpec)

/-- ITS FALSE NEIGHBOUR: 'it returns false'. Refute it at one input. -/
def runEvalsWrong : ChangeSpec := { name := "runEvals", fn := fun _ => fun
  | [d1, d2, d3, d4] => { results := [.lit (.bool false)], args := [d1, d2, d3, d4] }
  | _ => none }
def RunEvalsWrongFalsely : Prop := runEvalsRow.holds Tryz.pinned (OpenSpec.ofChange runEvalsWrong)

/-- 'triglyphlaw11.RunPrims': WHATEVER THE INPUT: true; the input reads as it did. -/
def runPrimsSpec : ChangeSpec := { name := "runPrims", fn := fun _ => fun
  | [d1, d2, d3] => { results := [.lit (.bool true)], args := [d1, d2, d3] }
  | _ => none }
def runPrimsRow : OpenClaim := { program := "ytbillkiljpkdfaagreat", sum := "fb19822293b5d175d2cd34b1755434b97d11f5bca2034ab75ead2dbb6e87547b", func := "triglyph/triglyphlaw11.RunPrims", spec := "runPrims", unfollowed := true, recurses := true, loops := true, apart := false }
def RunPrimsSaid : Prop := runPrimsRow.holds Tryz.pinned (OpenSpec.ofChange runPrimsSpec)

/-- ITS FALSE NEIGHBOUR: 'it returns false'. Refute it at one input. -/
def runPrimsWrong : ChangeSpec := { name := "runPrims", fn := fun _ => fun
  | [d1, d2, d3] => { results := [.lit (.bool false)], args := [d1, d2, d3] }
  | _ => none }
def RunPrimsWrongFalsely : Prop := runPrimsRow.holds Tryz.pinned (OpenSpec.ofChange runPrimsWrong)

/-- 'triglyphlaw11.RunMore': WHATEVER THE INPUT: true; the input reads as it did. -/
def runMoreSpec : ChangeSpec := { name := "runMore", fn := fun _ => fun
  | [d1, d2, d3, d4, d5] => { results := [.lit (.bool true)], args := [d1, d2, d3, d4, d5] }
  | _ => none }
def runMoreRow : OpenClaim := { program := "ytbillkiljpkdfaagreat", sum := "fb19822293b5d175d2cd34b1755434b97d11f5bca2034ab75ead2dbb6e87547b", func := "triglyph/triglyphlaw11.RunMore", spec := "runMore", unfollowed := true, recurses := true, loops := true, apart := false }
def RunMoreSaid : Prop := runMoreRow.holds Tryz.pinned (OpenSpec.ofChange runMoreSpec)

/-- ITS FALSE NEIGHBOUR: 'it returns false'. Refute it at one input. -/
def runMoreWrong : ChangeSpec := { name := "runMore", fn := fun _ => fun
  | [d1, d2, d3, d4, d5] => { results := [.lit (.bool false)], args := [d1, d2, d3, d4, d5] }
  | _ => none }
def RunMoreWrongFalsely : Prop := runMoreRow.holds Tryz.pinned (OpenSpec.ofChange runMoreWrong)

/-- 'triglyphlaw11.RunBound': WHATEVER THE INPUT: true; the input reads as it did. -/
def runBoundSpec : ChangeSpec := { name := "runBound", fn := fun _ => fun
  | [d1, d2, d3, d4] => { results := [.lit (.bool true)], args := [d1, d2, d3, d4] }
  | _ => none }
def runBoundRow : OpenClaim := { program := "ytbillkiljpkdfaagreat", sum := "fb19822293b5d175d2cd34b1755434b97d11f5bca2034ab75ead2dbb6e87547b", func := "triglyph/triglyphlaw11.RunBound", spec := "runBound", unfollowed := true, recurses := true, loops := true, apart := false }
def RunBoundSaid : Prop := runBoundRow.holds Tryz.pinned (OpenSpec.ofChange runBoundSpec)

/-- ITS FALSE NEIGHBOUR: 'it returns false'. Refute it at one input. -/
def runBoundWrong : ChangeSpec := { name := "runBound", fn := fun _ => fun
  | [d1, d2, d3, d4] => { results := [.lit (.bool false)], args := [d1, d2, d3, d4] }
  | _ => none }
def RunBoundWrongFalsely : Prop := runBoundRow.holds Tryz.pinned (OpenSpec.ofChange runBoundWrong)

/-- 'triglyphlaw11.RunNames': WHATEVER THE INPUT: true; the input reads as it did. -/
def runNamesSpec : ChangeSpec := { name := "runNames", fn := fun _ => fun
  | [d1, d2, d3, d4, d5, d6] => { results := [.lit (.bool true)], args := [d1, d2, d3, d4, d5, d6] }
  | _ => none }
def runNamesRow : OpenClaim := { program := "ytbillkiljpkdfaagreat", sum := "fb19822293b5d175d2cd34b1755434b97d11f5bca2034ab75ead2dbb6e87547b", func := "triglyph/triglyphlaw11.RunNames", spec := "runNames", unfollowed := true, recurses := true, loops := true, apart := false }
def RunNamesSaid : Prop := runNamesRow.holds Tryz.pinned (OpenSpec.ofChange runNamesSpec)

/-- ITS FALSE NEIGHBOUR: 'it returns false'. Refute it at one input. -/
def runNamesWrong : ChangeSpec := { name := "runNames", fn := fun _ => fun
  | [d1, d2, d3, d4, d5, d6] => { results := [.lit (.bool false)], args := [d1, d2, d3, d4, d5, d6] }
  | _ => none }
def RunNamesWrongFalsely : Prop := runNamesRow.holds Tryz.pinned (OpenSpec.ofChange runNamesWrong)

/-- 'triglyphlaw11.RunAgain': WHATEVER THE INPUT: true; the input reads as it did. -/
def runAgainSpec : ChangeSpec := { name := "runAgain", fn := fun _ => fun
  | [d1, d2, d3, d4] => { results := [.lit (.bool true)], args := [d1, d2, d3, d4] }
  | _ => none }
def runAgainRow : OpenClaim := { program := "ytbillkiljpkdfaagreat", sum := "fb19822293b5d175d2cd34b1755434b97d11f5bca2034ab75ead2dbb6e87547b", func := "triglyph/triglyphlaw11.RunAgain", spec := "runAgain", unfollowed := true, recurses := true, loops := true, apart := false }
def RunAgainSaid : Prop := runAgainRow.holds Tryz.pinned (OpenSpec.ofChange runAgainSpec)

/-- ITS FALSE NEIGHBOUR: 'it returns false'. Refute it at one input. -/
def runAgainWrong : ChangeSpec := { name := "runAgain", fn := fun _ => fun
  | [d1, d2, d3, d4] => { results := [.lit (.bool false)], args := [d1, d2, d3, d4] }
  | _ => none }
def RunAgainWrongFalsely : Prop := runAgainRow.holds Tryz.pinned (OpenSpec.ofChange runAgainWrong)

/- THE SECOND FORM. 'bulk': how many values and letters a reading holds, each counted each time it is reached (what is shared counts as often as it is met; a slice's spare places count too). A statement '..UptoSaid' is the law's where the arguments, and the package variables that the reading takes, are together of bulk at most 1048576: NARROWER than '..Said'. Prove '..Said' where nothing that the law and all that it calls make is longer than what came in: it says more and counts as full. Else prove '..UptoSaid'. A law counts once. -/
mutual
def uptoBulk {H : Type} : DataW H → Nat
  | .lit (.string bytes) => bytes.length + 1
  | .lit _ => 1
  | .nil => 1
  | .ptr d => uptoBulk d + 1
  | .slice elems spare => uptoBulkAll elems + uptoBulkAll spare + 1
  | .agg parts => uptoBulkAll parts + 1
  | .iface _ d => uptoBulk d + 1
  | .map entries => uptoBulkEntries entries + 1
  | .held _ => 1
def uptoBulkAll {H : Type} : List (DataW H) → Nat
  | [] => 0
  | d :: r => uptoBulk d + uptoBulkAll r
def uptoBulkEntries {H : Type} : List (Lit × DataW H) → Nat
  | [] => 0
  | x :: r => uptoBulkEntry x + uptoBulkEntries r
def uptoBulkEntry {H : Type} : Lit × DataW H → Nat
  | (.string bytes, d) => bytes.length + uptoBulk d + 1
  | (_, d) => uptoBulk d + 1
 end
def uptoSmall : (H : Type) → List (DataW H) → Bool := fun _ ds => decide (uptoBulkAll ds ≤ 1048576)
def OpenSpec.upto (s : _root_.Go.ChangeSpec) : _root_.Go.OpenSpec := { _root_.Go.OpenSpec.ofChange s with cond := some uptoSmall }

/-- 'triglyphlaw11.RunEvals', WHERE WHAT IT READS IS OF BULK AT MOST 1048576: true; the input reads as it did. -/
def runEvalsUptoRow : OpenClaim := { program := "ytbillkiljpkdfaagreat", sum := "fb19822293b5d175d2cd34b1755434b97d11f5bca2034ab75ead2dbb6e87547b", func := "triglyph/triglyphlaw11.RunEvals", spec := "runEvals", unfollowed := true, recurses := true, loops := true, apart := false, narrowed := true }
def RunEvalsUptoSaid : Prop := runEvalsUptoRow.holds Tryz.pinned (OpenSpec.upto runEvalsSpec)

/-- 'triglyphlaw11.RunPrims', WHERE WHAT IT READS IS OF BULK AT MOST 1048576: true; the input reads as it did. -/
def runPrimsUptoRow : OpenClaim := { program := "ytbillkiljpkdfaagreat", sum := "fb19822293b5d175d2cd34b1755434b97d11f5bca2034ab75ead2dbb6e87547b", func := "triglyph/triglyphlaw11.RunPrims", spec := "runPrims", unfollowed := true, recurses := true, loops := true, apart := false, narrowed := true }
def RunPrimsUptoSaid : Prop := runPrimsUptoRow.holds Tryz.pinned (OpenSpec.upto runPrimsSpec)

/-- 'triglyphlaw11.RunMore', WHERE WHAT IT READS IS OF BULK AT MOST 1048576: true; the input reads as it did. -/
def runMoreUptoRow : OpenClaim := { program := "ytbillkiljpkdfaagreat", sum := "fb19822293b5d175d2cd34b1755434b97d11f5bca2034ab75ead2dbb6e87547b", func := "triglyph/triglyphlaw11.RunMore", spec := "runMore", unfollowed := true, recurses := true, loops := true, apart := false, narrowed := true }
def RunMoreUptoSaid : Prop := runMoreUptoRow.holds Tryz.pinned (OpenSpec.upto runMoreSpec)

/-- 'triglyphlaw11.RunBound', WHERE WHAT IT READS IS OF BULK AT MOST 1048576: true; the input reads as it did. -/
def runBoundUptoRow : OpenClaim := { program := "ytbillkiljpkdfaagreat", sum := "fb19822293b5d175d2cd34b1755434b97d11f5bca2034ab75ead2dbb6e87547b", func := "triglyph/triglyphlaw11.RunBound", spec := "runBound", unfollowed := true, recurses := true, loops := true, apart := false, narrowed := true }
def RunBoundUptoSaid : Prop := runBoundUptoRow.holds Tryz.pinned (OpenSpec.upto runBoundSpec)

/-- 'triglyphlaw11.RunNames', WHERE WHAT IT READS IS OF BULK AT MOST 1048576: true; the input reads as it did. -/
def runNamesUptoRow : OpenClaim := { program := "ytbillkiljpkdfaagreat", sum := "fb19822293b5d175d2cd34b1755434b97d11f5bca2034ab75ead2dbb6e87547b", func := "triglyph/triglyphlaw11.RunNames", spec := "runNames", unfollowed := true, recurses := true, loops := true, apart := false, narrowed := true }
def RunNamesUptoSaid : Prop := runNamesUptoRow.holds Tryz.pinned (OpenSpec.upto runNamesSpec)

/-- 'triglyphlaw11.RunAgain', WHERE WHAT IT READS IS OF BULK AT MOST 1048576: true; the input reads as it did. -/
def runAgainUptoRow : OpenClaim := { program := "ytbillkiljpkdfaagreat", sum := "fb19822293b5d175d2cd34b1755434b97d11f5bca2034ab75ead2dbb6e87547b", func := "triglyph/triglyphlaw11.RunAgain", spec := "runAgain", unfollowed := true, recurses := true, loops := true, apart := false, narrowed := true }
def RunAgainUptoSaid : Prop := runAgainUptoRow.holds Tryz.pinned (OpenSpec.upto runAgainSpec)

end Rows
end Go.Proofs.YtbillkiljpkdfaaGreat
