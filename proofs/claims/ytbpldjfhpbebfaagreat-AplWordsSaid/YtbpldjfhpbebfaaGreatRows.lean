/-
  No cell of these rows narrows 'for every input' (looked for: loops, veiled, ifaces, maps, wideKeys, modest, calm, conditions, laid).
  DERIVED. THE GIVEN ROWS OF THIS SEAT. 4 by the template 'for every input the law returns true; each argument reads behind the call as it read before'; 0 by the template 'total and deterministic' (their statements: YtbpldjfhpbebfaaGreatTotals.lean).
  GIVEN WITH THE SEED: the statements are not yours to turn. If you find one false, say at which input.
  Laid BY PROGRAM, IN A SANDBOX (cutbox-rows.mjs): the forced cells as the released guide's own fill.sh prints them over the translation 013d722d4b95040c… (all of the seat's roots in one cut). By AI agents, Wed Nov 11 2026. No macro, syntax, notation, axiom, sorry.
-/
import Derived.Test.YtbpldjfhpbebfaaGreatChecked
import GoSem.Claim
import GoSem.ClaimJoined
import GoSem.ClaimMapViews
import Derived.JoinedTies
import Derived.KernelRfl
namespace Go.Proofs.YtbpldjfhpbebfaaGreat
/- THE CELL 'sum', in the pinned program and in every row, IS THE sha256 OF THE DUMP (.gsa) THAT YtbpldjfhpbebfaaGreatProg.lean LOADS. Nothing in Lean hashes anything: it is a label: what it is worth is what the hold of that sum in a sandbox is worth. -/
noncomputable def Tryz.pinned : Pinned := { name := "ytbpldjfhpbebfaagreat", sum := "013d722d4b95040cebd12390971ba61332f30cede0f6b5e63417f24d07a0322e", checked := Tryz.checked }
namespace Rows
def none {H : Type} : Left H := { results := [], args := [] }

/-- 'triglyphlaw19.KayOnce': WHATEVER THE INPUT: true; the input reads as it did. -/
def kayOnceSpec : ChangeSpec := { name := "kayOnce", fn := fun _ => fun
  | [d] => { results := [.lit (.bool true)], args := [d] }
  | _ => none }
def kayOnceRow : OpenClaim := { program := "ytbpldjfhpbebfaagreat", sum := "013d722d4b95040cebd12390971ba61332f30cede0f6b5e63417f24d07a0322e", func := "triglyph/triglyphlaw19.KayOnce", spec := "kayOnce", inPlace := ["internal/bytealg.IndexByteString", "internal/bytealg.IndexString", "internal/abi.NoEscape", "internal/bytealg.MakeNoZero"], unfollowed := true, recurses := true, named := ["internal/bytealg.MaxLen"], apart := false }
def KayOnceSaid : Prop := kayOnceRow.holds Tryz.pinned (OpenSpec.ofChange kayOnceSpec)

/-- ITS FALSE NEIGHBOUR: 'it returns false'. Refute it at one input. -/
def kayOnceWrong : ChangeSpec := { name := "kayOnce", fn := fun _ => fun
  | [d] => { results := [.lit (.bool false)], args := [d] }
  | _ => none }
def KayOnceWrongFalsely : Prop := kayOnceRow.holds Tryz.pinned (OpenSpec.ofChange kayOnceWrong)

/-- 'triglyphlaw19.KayWords': WHATEVER THE INPUT: true; the input reads as it did. -/
def kayWordsSpec : ChangeSpec := { name := "kayWords", fn := fun _ => fun
  | [d] => { results := [.lit (.bool true)], args := [d] }
  | _ => none }
def kayWordsRow : OpenClaim := { program := "ytbpldjfhpbebfaagreat", sum := "013d722d4b95040cebd12390971ba61332f30cede0f6b5e63417f24d07a0322e", func := "triglyph/triglyphlaw19.KayWords", spec := "kayWords", inPlace := ["internal/bytealg.IndexByteString", "internal/bytealg.IndexString", "internal/abi.NoEscape", "internal/bytealg.MakeNoZero"], unfollowed := true, recurses := true, named := ["internal/bytealg.MaxLen"], apart := false }
def KayWordsSaid : Prop := kayWordsRow.holds Tryz.pinned (OpenSpec.ofChange kayWordsSpec)

/-- ITS FALSE NEIGHBOUR: 'it returns false'. Refute it at one input. -/
def kayWordsWrong : ChangeSpec := { name := "kayWords", fn := fun _ => fun
  | [d] => { results := [.lit (.bool false)], args := [d] }
  | _ => none }
def KayWordsWrongFalsely : Prop := kayWordsRow.holds Tryz.pinned (OpenSpec.ofChange kayWordsWrong)

/-- 'triglyphlaw17.AplOnce': WHATEVER THE INPUT: true; the input reads as it did. -/
def aplOnceSpec : ChangeSpec := { name := "aplOnce", fn := fun _ => fun
  | [d] => { results := [.lit (.bool true)], args := [d] }
  | _ => none }
def aplOnceRow : OpenClaim := { program := "ytbpldjfhpbebfaagreat", sum := "013d722d4b95040cebd12390971ba61332f30cede0f6b5e63417f24d07a0322e", func := "triglyph/triglyphlaw17.AplOnce", spec := "aplOnce", inPlace := ["internal/bytealg.IndexByteString", "internal/bytealg.IndexString", "internal/abi.NoEscape", "internal/bytealg.MakeNoZero"], unfollowed := true, recurses := true, named := ["internal/bytealg.MaxLen"], apart := false }
def AplOnceSaid : Prop := aplOnceRow.holds Tryz.pinned (OpenSpec.ofChange aplOnceSpec)

/-- ITS FALSE NEIGHBOUR: 'it returns false'. Refute it at one input. -/
def aplOnceWrong : ChangeSpec := { name := "aplOnce", fn := fun _ => fun
  | [d] => { results := [.lit (.bool false)], args := [d] }
  | _ => none }
def AplOnceWrongFalsely : Prop := aplOnceRow.holds Tryz.pinned (OpenSpec.ofChange aplOnceWrong)

/-- 'triglyphlaw17.AplWords': WHATEVER THE INPUT: true; the input reads as it did. -/
def aplWordsSpec : ChangeSpec := { name := "aplWords", fn := fun _ => fun
  | [d] => { results := [.lit (.bool true)], args := [d] }
  | _ => none }
def aplWordsRow : OpenClaim := { program := "ytbpldjfhpbebfaagreat", sum := "013d722d4b95040cebd12390971ba61332f30cede0f6b5e63417f24d07a0322e", func := "triglyph/triglyphlaw17.AplWords", spec := "aplWords", inPlace := ["internal/bytealg.IndexByteString", "internal/bytealg.IndexString", "internal/abi.NoEscape", "internal/bytealg.MakeNoZero"], unfollowed := true, recurses := true, named := ["internal/bytealg.MaxLen"], apart := false }
def AplWordsSaid : Prop := aplWordsRow.holds Tryz.pinned (OpenSpec.ofChange aplWordsSpec)

/-- ITS FALSE NEIGHBOUR: 'it returns false'. Refute it at one input. -/
def aplWordsWrong : ChangeSpec := { name := "aplWords", fn := fun _ => fun
  | [d] => { results := [.lit (.bool false)], args := [d] }
  | _ => none }
def AplWordsWrongFalsely : Prop := aplWordsRow.holds Tryz.pinned (OpenSpec.ofChange aplWordsWrong)

/- THE SECOND FORM. 'bulk': how many values and letters a reading holds, each counted each time it is reached (what is shared counts as often as it is met; a slice's spare places count too). A statement '..UptoSaid' is the law's where the arguments, and the package variables that the reading takes, are together of bulk at most 1048576: NARROWER than '..Said'. Prove '..Said' where nothing that the law and all that it calls make is longer than what came in: it says more and counts as full. Else prove '..UptoSaid'. A law counts once. -/
mutual
def uptoBulk {H : Type} : DataW H → Nat
  | .lit (.string bytes) => bytes.length + 1
  | .lit _ => 1
  | .nil => 1
  | .ptr d => uptoBulk d + 1
  | .slice elems spare => uptoBulkAll elems + uptoBulkAll spare + 1
  | .agg parts => uptoBulkAll parts + 1
  | .iface _ d => uptoBulk d + 1
  | .map entries => uptoBulkEntries entries + 1
  | .held _ => 1
def uptoBulkAll {H : Type} : List (DataW H) → Nat
  | [] => 0
  | d :: r => uptoBulk d + uptoBulkAll r
def uptoBulkEntries {H : Type} : List (Lit × DataW H) → Nat
  | [] => 0
  | x :: r => uptoBulkEntry x + uptoBulkEntries r
def uptoBulkEntry {H : Type} : Lit × DataW H → Nat
  | (.string bytes, d) => bytes.length + uptoBulk d + 1
  | (_, d) => uptoBulk d + 1
 end
def uptoSmall : (H : Type) → List (DataW H) → Bool := fun _ ds => decide (uptoBulkAll ds ≤ 1048576)
def OpenSpec.upto (s : _root_.Go.ChangeSpec) : _root_.Go.OpenSpec := { _root_.Go.OpenSpec.ofChange s with cond := some uptoSmall }

/-- 'triglyphlaw19.KayOnce', WHERE WHAT IT READS IS OF BULK AT MOST 1048576: true; the input reads as it did. -/
def kayOnceUptoRow : OpenClaim := { program := "ytbpldjfhpbebfaagreat", sum := "013d722d4b95040cebd12390971ba61332f30cede0f6b5e63417f24d07a0322e", func := "triglyph/triglyphlaw19.KayOnce", spec := "kayOnce", inPlace := ["internal/bytealg.IndexByteString", "internal/bytealg.IndexString", "internal/abi.NoEscape", "internal/bytealg.MakeNoZero"], unfollowed := true, recurses := true, named := ["internal/bytealg.MaxLen"], apart := false, narrowed := true }
def KayOnceUptoSaid : Prop := kayOnceUptoRow.holds Tryz.pinned (OpenSpec.upto kayOnceSpec)

/-- 'triglyphlaw19.KayWords', WHERE WHAT IT READS IS OF BULK AT MOST 1048576: true; the input reads as it did. -/
def kayWordsUptoRow : OpenClaim := { program := "ytbpldjfhpbebfaagreat", sum := "013d722d4b95040cebd12390971ba61332f30cede0f6b5e63417f24d07a0322e", func := "triglyph/triglyphlaw19.KayWords", spec := "kayWords", inPlace := ["internal/bytealg.IndexByteString", "internal/bytealg.IndexString", "internal/abi.NoEscape", "internal/bytealg.MakeNoZero"], unfollowed := true, recurses := true, named := ["internal/bytealg.MaxLen"], apart := false, narrowed := true }
def KayWordsUptoSaid : Prop := kayWordsUptoRow.holds Tryz.pinned (OpenSpec.upto kayWordsSpec)

/-- 'triglyphlaw17.AplOnce', WHERE WHAT IT READS IS OF BULK AT MOST 1048576: true; the input reads as it did. -/
def aplOnceUptoRow : OpenClaim := { program := "ytbpldjfhpbebfaagreat", sum := "013d722d4b95040cebd12390971ba61332f30cede0f6b5e63417f24d07a0322e", func := "triglyph/triglyphlaw17.AplOnce", spec := "aplOnce", inPlace := ["internal/bytealg.IndexByteString", "internal/bytealg.IndexString", "internal/abi.NoEscape", "internal/bytealg.MakeNoZero"], unfollowed := true, recurses := true, named := ["internal/bytealg.MaxLen"], apart := false, narrowed := true }
def AplOnceUptoSaid : Prop := aplOnceUptoRow.holds Tryz.pinned (OpenSpec.upto aplOnceSpec)

/-- 'triglyphlaw17.AplWords', WHERE WHAT IT READS IS OF BULK AT MOST 1048576: true; the input reads as it did. -/
def aplWordsUptoRow : OpenClaim := { program := "ytbpldjfhpbebfaagreat", sum := "013d722d4b95040cebd12390971ba61332f30cede0f6b5e63417f24d07a0322e", func := "triglyph/triglyphlaw17.AplWords", spec := "aplWords", inPlace := ["internal/bytealg.IndexByteString", "internal/bytealg.IndexString", "internal/abi.NoEscape", "internal/bytealg.MakeNoZero"], unfollowed := true, recurses := true, named := ["internal/bytealg.MaxLen"], apart := false, narrowed := true }
def AplWordsUptoSaid : Prop := aplWordsUptoRow.holds Tryz.pinned (OpenSpec.upto aplWordsSpec)

end Rows
end Go.Proofs.YtbpldjfhpbebfaaGreat
