/-
  No cell of these rows narrows 'for every input' (looked for: loops, veiled, ifaces, maps, wideKeys, modest, calm, conditions, laid).
  DERIVED. THE GIVEN ROWS OF THIS SEAT. 13 by the template 'for every input the law returns true; each argument reads behind the call as it read before'; 0 by the template 'total and deterministic' (their statements: YtohgladndklciaaTotals.lean).
  GIVEN WITH THE SEED: the statements are not yours to turn. If you find one false, say at which input.
  Laid BY PROGRAM, IN A SANDBOX (cutbox-rows.mjs): the forced cells as the released guide's own fill.sh prints them over the translation 32bea6226023ab2f… (all of the seat's roots in one cut). By AI agents, Wed Nov 11 2026. No macro, syntax, notation, axiom, sorry.
-/
import Derived.Test.YtohgladndklciaaChecked
import GoSem.Claim
import GoSem.ClaimJoined
import GoSem.ClaimMapViews
import Derived.JoinedTies
import Derived.KernelRfl
namespace Go.Proofs.Ytohgladndklciaa
/- THE CELL 'sum', in the pinned program and in every row, IS THE sha256 OF THE DUMP (.gsa) THAT YtohgladndklciaaProg.lean LOADS. Nothing in Lean hashes anything: it is a label: what it is worth is what the hold of that sum in a sandbox is worth. -/
noncomputable def Try.pinned : Pinned := { name := "ytohgladndklciaa", sum := "32bea6226023ab2f9fbce8c2cd2e3e3da9a9ba42e9d09fd0cfaec15d09f1afa5", checked := Try.checked }
namespace Rows
def none {H : Type} : Left H := { results := [], args := [] }

/-- 'tensilelaw06.HardConverts': WHATEVER THE INPUT: true; the input reads as it did. -/
def hardConvertsSpec : ChangeSpec := { name := "hardConverts", fn := fun _ => fun
  | [d1, d2, d3] => { results := [.lit (.bool true)], args := [d1, d2, d3] }
  | _ => none }
def hardConvertsRow : OpenClaim := { program := "ytohgladndklciaa", sum := "32bea6226023ab2f9fbce8c2cd2e3e3da9a9ba42e9d09fd0cfaec15d09f1afa5", func := "tensile/tensilelaw06.HardConverts", spec := "hardConverts", unfollowed := true, recurses := true, plainKeys := false, apart := false }
def HardConvertsSaid : Prop := hardConvertsRow.holds Try.pinned (OpenSpec.ofChange hardConvertsSpec)

/-- ITS FALSE NEIGHBOUR: 'it returns false'. Refute it at one input. -/
def hardConvertsWrong : ChangeSpec := { name := "hardConverts", fn := fun _ => fun
  | [d1, d2, d3] => { results := [.lit (.bool false)], args := [d1, d2, d3] }
  | _ => none }
def HardConvertsWrongFalsely : Prop := hardConvertsRow.holds Try.pinned (OpenSpec.ofChange hardConvertsWrong)

/-- 'tensilelaw06.HardSpans': WHATEVER THE INPUT: true; the input reads as it did. -/
def hardSpansSpec : ChangeSpec := { name := "hardSpans", fn := fun _ => fun
  | [d1, d2] => { results := [.lit (.bool true)], args := [d1, d2] }
  | _ => none }
def hardSpansRow : OpenClaim := { program := "ytohgladndklciaa", sum := "32bea6226023ab2f9fbce8c2cd2e3e3da9a9ba42e9d09fd0cfaec15d09f1afa5", func := "tensile/tensilelaw06.HardSpans", spec := "hardSpans", unfollowed := true, recurses := true, plainKeys := false, apart := false }
def HardSpansSaid : Prop := hardSpansRow.holds Try.pinned (OpenSpec.ofChange hardSpansSpec)

/-- ITS FALSE NEIGHBOUR: 'it returns false'. Refute it at one input. -/
def hardSpansWrong : ChangeSpec := { name := "hardSpans", fn := fun _ => fun
  | [d1, d2] => { results := [.lit (.bool false)], args := [d1, d2] }
  | _ => none }
def HardSpansWrongFalsely : Prop := hardSpansRow.holds Try.pinned (OpenSpec.ofChange hardSpansWrong)

/-- 'tensilelaw06.HardOrder': WHATEVER THE INPUT: true; the input reads as it did. -/
def hardOrderSpec : ChangeSpec := { name := "hardOrder", fn := fun _ => fun
  | [d1, d2, d3, d4] => { results := [.lit (.bool true)], args := [d1, d2, d3, d4] }
  | _ => none }
def hardOrderRow : OpenClaim := { program := "ytohgladndklciaa", sum := "32bea6226023ab2f9fbce8c2cd2e3e3da9a9ba42e9d09fd0cfaec15d09f1afa5", func := "tensile/tensilelaw06.HardOrder", spec := "hardOrder", unfollowed := true, recurses := true, plainKeys := false, apart := false }
def HardOrderSaid : Prop := hardOrderRow.holds Try.pinned (OpenSpec.ofChange hardOrderSpec)

/-- ITS FALSE NEIGHBOUR: 'it returns false'. Refute it at one input. -/
def hardOrderWrong : ChangeSpec := { name := "hardOrder", fn := fun _ => fun
  | [d1, d2, d3, d4] => { results := [.lit (.bool false)], args := [d1, d2, d3, d4] }
  | _ => none }
def HardOrderWrongFalsely : Prop := hardOrderRow.holds Try.pinned (OpenSpec.ofChange hardOrderWrong)

/-- 'tensilelaw06.HardMore': WHATEVER THE INPUT: true; the input reads as it did. -/
def hardMoreSpec : ChangeSpec := { name := "hardMore", fn := fun _ => fun
  | [d1, d2, d3, d4, d5, d6] => { results := [.lit (.bool true)], args := [d1, d2, d3, d4, d5, d6] }
  | _ => none }
def hardMoreRow : OpenClaim := { program := "ytohgladndklciaa", sum := "32bea6226023ab2f9fbce8c2cd2e3e3da9a9ba42e9d09fd0cfaec15d09f1afa5", func := "tensile/tensilelaw06.HardMore", spec := "hardMore", unfollowed := true, recurses := true, plainKeys := false, apart := false }
def HardMoreSaid : Prop := hardMoreRow.holds Try.pinned (OpenSpec.ofChange hardMoreSpec)

/-- ITS FALSE NEIGHBOUR: 'it returns false'. Refute it at one input. -/
def hardMoreWrong : ChangeSpec := { name := "hardMore", fn := fun _ => fun
  | [d1, d2, d3, d4, d5, d6] => { results := [.lit (.bool false)], args := [d1, d2, d3, d4, d5, d6] }
  | _ => none }
def HardMoreWrongFalsely : Prop := hardMoreRow.holds Try.pinned (OpenSpec.ofChange hardMoreWrong)

/-- 'tensilelaw06.HardFiner': WHATEVER THE INPUT: true; the input reads as it did. -/
def hardFinerSpec : ChangeSpec := { name := "hardFiner", fn := fun _ => fun
  | [d1, d2, d3, d4, d5, d6] => { results := [.lit (.bool true)], args := [d1, d2, d3, d4, d5, d6] }
  | _ => none }
def hardFinerRow : OpenClaim := { program := "ytohgladndklciaa", sum := "32bea6226023ab2f9fbce8c2cd2e3e3da9a9ba42e9d09fd0cfaec15d09f1afa5", func := "tensile/tensilelaw06.HardFiner", spec := "hardFiner", unfollowed := true, recurses := true, plainKeys := false, apart := false }
def HardFinerSaid : Prop := hardFinerRow.holds Try.pinned (OpenSpec.ofChange hardFinerSpec)

/-- ITS FALSE NEIGHBOUR: 'it returns false'. Refute it at one input. -/
def hardFinerWrong : ChangeSpec := { name := "hardFiner", fn := fun _ => fun
  | [d1, d2, d3, d4, d5, d6] => { results := [.lit (.bool false)], args := [d1, d2, d3, d4, d5, d6] }
  | _ => none }
def HardFinerWrongFalsely : Prop := hardFinerRow.holds Try.pinned (OpenSpec.ofChange hardFinerWrong)

/-- 'tensilelaw06.HardBack': WHATEVER THE INPUT: true; the input reads as it did. -/
def hardBackSpec : ChangeSpec := { name := "hardBack", fn := fun _ => fun
  | [d1, d2] => { results := [.lit (.bool true)], args := [d1, d2] }
  | _ => none }
def hardBackRow : OpenClaim := { program := "ytohgladndklciaa", sum := "32bea6226023ab2f9fbce8c2cd2e3e3da9a9ba42e9d09fd0cfaec15d09f1afa5", func := "tensile/tensilelaw06.HardBack", spec := "hardBack", unfollowed := true, recurses := true, plainKeys := false, apart := false }
def HardBackSaid : Prop := hardBackRow.holds Try.pinned (OpenSpec.ofChange hardBackSpec)

/-- ITS FALSE NEIGHBOUR: 'it returns false'. Refute it at one input. -/
def hardBackWrong : ChangeSpec := { name := "hardBack", fn := fun _ => fun
  | [d1, d2] => { results := [.lit (.bool false)], args := [d1, d2] }
  | _ => none }
def HardBackWrongFalsely : Prop := hardBackRow.holds Try.pinned (OpenSpec.ofChange hardBackWrong)

/-- 'tensilelaw06.HardAllows': WHATEVER THE INPUT: true; the input reads as it did. -/
def hardAllowsSpec : ChangeSpec := { name := "hardAllows", fn := fun _ => fun
  | [d1, d2, d3, d4] => { results := [.lit (.bool true)], args := [d1, d2, d3, d4] }
  | _ => none }
def hardAllowsRow : OpenClaim := { program := "ytohgladndklciaa", sum := "32bea6226023ab2f9fbce8c2cd2e3e3da9a9ba42e9d09fd0cfaec15d09f1afa5", func := "tensile/tensilelaw06.HardAllows", spec := "hardAllows", unfollowed := true, recurses := true, plainKeys := false, apart := false }
def HardAllowsSaid : Prop := hardAllowsRow.holds Try.pinned (OpenSpec.ofChange hardAllowsSpec)

/-- ITS FALSE NEIGHBOUR: 'it returns false'. Refute it at one input. -/
def hardAllowsWrong : ChangeSpec := { name := "hardAllows", fn := fun _ => fun
  | [d1, d2, d3, d4] => { results := [.lit (.bool false)], args := [d1, d2, d3, d4] }
  | _ => none }
def HardAllowsWrongFalsely : Prop := hardAllowsRow.holds Try.pinned (OpenSpec.ofChange hardAllowsWrong)

/-- 'tensilelaw06.HardBiases': WHATEVER THE INPUT: true; the input reads as it did. -/
def hardBiasesSpec : ChangeSpec := { name := "hardBiases", fn := fun _ => fun
  | [d1, d2] => { results := [.lit (.bool true)], args := [d1, d2] }
  | _ => none }
def hardBiasesRow : OpenClaim := { program := "ytohgladndklciaa", sum := "32bea6226023ab2f9fbce8c2cd2e3e3da9a9ba42e9d09fd0cfaec15d09f1afa5", func := "tensile/tensilelaw06.HardBiases", spec := "hardBiases", unfollowed := true, recurses := true, plainKeys := false, apart := false }
def HardBiasesSaid : Prop := hardBiasesRow.holds Try.pinned (OpenSpec.ofChange hardBiasesSpec)

/-- ITS FALSE NEIGHBOUR: 'it returns false'. Refute it at one input. -/
def hardBiasesWrong : ChangeSpec := { name := "hardBiases", fn := fun _ => fun
  | [d1, d2] => { results := [.lit (.bool false)], args := [d1, d2] }
  | _ => none }
def HardBiasesWrongFalsely : Prop := hardBiasesRow.holds Try.pinned (OpenSpec.ofChange hardBiasesWrong)

/-- 'tensilelaw06.HardFits': WHATEVER THE INPUT: true; the input reads as it did. -/
def hardFitsSpec : ChangeSpec := { name := "hardFits", fn := fun _ => fun
  | [d1, d2, d3] => { results := [.lit (.bool true)], args := [d1, d2, d3] }
  | _ => none }
def hardFitsRow : OpenClaim := { program := "ytohgladndklciaa", sum := "32bea6226023ab2f9fbce8c2cd2e3e3da9a9ba42e9d09fd0cfaec15d09f1afa5", func := "tensile/tensilelaw06.HardFits", spec := "hardFits", unfollowed := true, recurses := true, plainKeys := false, apart := false }
def HardFitsSaid : Prop := hardFitsRow.holds Try.pinned (OpenSpec.ofChange hardFitsSpec)

/-- ITS FALSE NEIGHBOUR: 'it returns false'. Refute it at one input. -/
def hardFitsWrong : ChangeSpec := { name := "hardFits", fn := fun _ => fun
  | [d1, d2, d3] => { results := [.lit (.bool false)], args := [d1, d2, d3] }
  | _ => none }
def HardFitsWrongFalsely : Prop := hardFitsRow.holds Try.pinned (OpenSpec.ofChange hardFitsWrong)

/-- 'tensilelaw06.HardDoubts': WHATEVER THE INPUT: true; the input reads as it did. -/
def hardDoubtsSpec : ChangeSpec := { name := "hardDoubts", fn := fun _ => fun
  | [d1, d2] => { results := [.lit (.bool true)], args := [d1, d2] }
  | _ => none }
def hardDoubtsRow : OpenClaim := { program := "ytohgladndklciaa", sum := "32bea6226023ab2f9fbce8c2cd2e3e3da9a9ba42e9d09fd0cfaec15d09f1afa5", func := "tensile/tensilelaw06.HardDoubts", spec := "hardDoubts", unfollowed := true, recurses := true, plainKeys := false, apart := false }
def HardDoubtsSaid : Prop := hardDoubtsRow.holds Try.pinned (OpenSpec.ofChange hardDoubtsSpec)

/-- ITS FALSE NEIGHBOUR: 'it returns false'. Refute it at one input. -/
def hardDoubtsWrong : ChangeSpec := { name := "hardDoubts", fn := fun _ => fun
  | [d1, d2] => { results := [.lit (.bool false)], args := [d1, d2] }
  | _ => none }
def HardDoubtsWrongFalsely : Prop := hardDoubtsRow.holds Try.pinned (OpenSpec.ofChange hardDoubtsWrong)

/-- 'tensilelaw06.HardDoubtful': WHATEVER THE INPUT: true; the input reads as it did. -/
def hardDoubtfulSpec : ChangeSpec := { name := "hardDoubtful", fn := fun _ => fun
  | [d1, d2, d3] => { results := [.lit (.bool true)], args := [d1, d2, d3] }
  | _ => none }
def hardDoubtfulRow : OpenClaim := { program := "ytohgladndklciaa", sum := "32bea6226023ab2f9fbce8c2cd2e3e3da9a9ba42e9d09fd0cfaec15d09f1afa5", func := "tensile/tensilelaw06.HardDoubtful", spec := "hardDoubtful", unfollowed := true, recurses := true, plainKeys := false, apart := false }
def HardDoubtfulSaid : Prop := hardDoubtfulRow.holds Try.pinned (OpenSpec.ofChange hardDoubtfulSpec)

/-- ITS FALSE NEIGHBOUR: 'it returns false'. Refute it at one input. -/
def hardDoubtfulWrong : ChangeSpec := { name := "hardDoubtful", fn := fun _ => fun
  | [d1, d2, d3] => { results := [.lit (.bool false)], args := [d1, d2, d3] }
  | _ => none }
def HardDoubtfulWrongFalsely : Prop := hardDoubtfulRow.holds Try.pinned (OpenSpec.ofChange hardDoubtfulWrong)

/-- 'tensilelaw06.HardTruth': WHATEVER THE INPUT: true; the input reads as it did. -/
def hardTruthSpec : ChangeSpec := { name := "hardTruth", fn := fun _ => fun
  | [d1, d2, d3] => { results := [.lit (.bool true)], args := [d1, d2, d3] }
  | _ => none }
def hardTruthRow : OpenClaim := { program := "ytohgladndklciaa", sum := "32bea6226023ab2f9fbce8c2cd2e3e3da9a9ba42e9d09fd0cfaec15d09f1afa5", func := "tensile/tensilelaw06.HardTruth", spec := "hardTruth", unfollowed := true, recurses := true, plainKeys := false, apart := false }
def HardTruthSaid : Prop := hardTruthRow.holds Try.pinned (OpenSpec.ofChange hardTruthSpec)

/-- ITS FALSE NEIGHBOUR: 'it returns false'. Refute it at one input. -/
def hardTruthWrong : ChangeSpec := { name := "hardTruth", fn := fun _ => fun
  | [d1, d2, d3] => { results := [.lit (.bool false)], args := [d1, d2, d3] }
  | _ => none }
def HardTruthWrongFalsely : Prop := hardTruthRow.holds Try.pinned (OpenSpec.ofChange hardTruthWrong)

/-- 'tensilelaw06.HardNames': WHATEVER THE INPUT: true; the input reads as it did. -/
def hardNamesSpec : ChangeSpec := { name := "hardNames", fn := fun _ => fun
  | [] => { results := [.lit (.bool true)], args := [] }
  | _ => none }
def hardNamesRow : OpenClaim := { program := "ytohgladndklciaa", sum := "32bea6226023ab2f9fbce8c2cd2e3e3da9a9ba42e9d09fd0cfaec15d09f1afa5", func := "tensile/tensilelaw06.HardNames", spec := "hardNames", unfollowed := true, recurses := true, plainKeys := false, apart := false }
def HardNamesSaid : Prop := hardNamesRow.holds Try.pinned (OpenSpec.ofChange hardNamesSpec)

/-- ITS FALSE NEIGHBOUR: 'it returns false'. Refute it at one input. -/
def hardNamesWrong : ChangeSpec := { name := "hardNames", fn := fun _ => fun
  | [] => { results := [.lit (.bool false)], args := [] }
  | _ => none }
def HardNamesWrongFalsely : Prop := hardNamesRow.holds Try.pinned (OpenSpec.ofChange hardNamesWrong)

/- THE SECOND FORM. 'bulk': how many values and letters a reading holds, each counted each time it is reached (what is shared counts as often as it is met; a slice's spare places count too). A statement '..UptoSaid' is the law's where the arguments, and the package variables that the reading takes, are together of bulk at most 1048576: NARROWER than '..Said'. Prove '..Said' where nothing that the law and all that it calls make is longer than what came in: it says more and counts as full. Else prove '..UptoSaid'. A law counts once. -/
mutual
def uptoBulk {H : Type} : DataW H → Nat
  | .lit (.string bytes) => bytes.length + 1
  | .lit _ => 1
  | .nil => 1
  | .ptr d => uptoBulk d + 1
  | .slice elems spare => uptoBulkAll elems + uptoBulkAll spare + 1
  | .agg parts => uptoBulkAll parts + 1
  | .iface _ d => uptoBulk d + 1
  | .map entries => uptoBulkEntries entries + 1
  | .held _ => 1
def uptoBulkAll {H : Type} : List (DataW H) → Nat
  | [] => 0
  | d :: r => uptoBulk d + uptoBulkAll r
def uptoBulkEntries {H : Type} : List (Lit × DataW H) → Nat
  | [] => 0
  | x :: r => uptoBulkEntry x + uptoBulkEntries r
def uptoBulkEntry {H : Type} : Lit × DataW H → Nat
  | (.string bytes, d) => bytes.length + uptoBulk d + 1
  | (_, d) => uptoBulk d + 1
 end
def uptoSmall : (H : Type) → List (DataW H) → Bool := fun _ ds => decide (uptoBulkAll ds ≤ 1048576)
def OpenSpec.upto (s : _root_.Go.ChangeSpec) : _root_.Go.OpenSpec := { _root_.Go.OpenSpec.ofChange s with cond := some uptoSmall }

/-- 'tensilelaw06.HardConverts', WHERE WHAT IT READS IS OF BULK AT MOST 1048576: true; the input reads as it did. -/
def hardConvertsUptoRow : OpenClaim := { program := "ytohgladndklciaa", sum := "32bea6226023ab2f9fbce8c2cd2e3e3da9a9ba42e9d09fd0cfaec15d09f1afa5", func := "tensile/tensilelaw06.HardConverts", spec := "hardConverts", unfollowed := true, recurses := true, plainKeys := false, apart := false, narrowed := true }
def HardConvertsUptoSaid : Prop := hardConvertsUptoRow.holds Try.pinned (OpenSpec.upto hardConvertsSpec)

/-- 'tensilelaw06.HardSpans', WHERE WHAT IT READS IS OF BULK AT MOST 1048576: true; the input reads as it did. -/
def hardSpansUptoRow : OpenClaim := { program := "ytohgladndklciaa", sum := "32bea6226023ab2f9fbce8c2cd2e3e3da9a9ba42e9d09fd0cfaec15d09f1afa5", func := "tensile/tensilelaw06.HardSpans", spec := "hardSpans", unfollowed := true, recurses := true, plainKeys := false, apart := false, narrowed := true }
def HardSpansUptoSaid : Prop := hardSpansUptoRow.holds Try.pinned (OpenSpec.upto hardSpansSpec)

/-- 'tensilelaw06.HardOrder', WHERE WHAT IT READS IS OF BULK AT MOST 1048576: true; the input reads as it did. -/
def hardOrderUptoRow : OpenClaim := { program := "ytohgladndklciaa", sum := "32bea6226023ab2f9fbce8c2cd2e3e3da9a9ba42e9d09fd0cfaec15d09f1afa5", func := "tensile/tensilelaw06.HardOrder", spec := "hardOrder", unfollowed := true, recurses := true, plainKeys := false, apart := false, narrowed := true }
def HardOrderUptoSaid : Prop := hardOrderUptoRow.holds Try.pinned (OpenSpec.upto hardOrderSpec)

/-- 'tensilelaw06.HardMore', WHERE WHAT IT READS IS OF BULK AT MOST 1048576: true; the input reads as it did. -/
def hardMoreUptoRow : OpenClaim := { program := "ytohgladndklciaa", sum := "32bea6226023ab2f9fbce8c2cd2e3e3da9a9ba42e9d09fd0cfaec15d09f1afa5", func := "tensile/tensilelaw06.HardMore", spec := "hardMore", unfollowed := true, recurses := true, plainKeys := false, apart := false, narrowed := true }
def HardMoreUptoSaid : Prop := hardMoreUptoRow.holds Try.pinned (OpenSpec.upto hardMoreSpec)

/-- 'tensilelaw06.HardFiner', WHERE WHAT IT READS IS OF BULK AT MOST 1048576: true; the input reads as it did. -/
def hardFinerUptoRow : OpenClaim := { program := "ytohgladndklciaa", sum := "32bea6226023ab2f9fbce8c2cd2e3e3da9a9ba42e9d09fd0cfaec15d09f1afa5", func := "tensile/tensilelaw06.HardFiner", spec := "hardFiner", unfollowed := true, recurses := true, plainKeys := false, apart := false, narrowed := true }
def HardFinerUptoSaid : Prop := hardFinerUptoRow.holds Try.pinned (OpenSpec.upto hardFinerSpec)

/-- 'tensilelaw06.HardBack', WHERE WHAT IT READS IS OF BULK AT MOST 1048576: true; the input reads as it did. -/
def hardBackUptoRow : OpenClaim := { program := "ytohgladndklciaa", sum := "32bea6226023ab2f9fbce8c2cd2e3e3da9a9ba42e9d09fd0cfaec15d09f1afa5", func := "tensile/tensilelaw06.HardBack", spec := "hardBack", unfollowed := true, recurses := true, plainKeys := false, apart := false, narrowed := true }
def HardBackUptoSaid : Prop := hardBackUptoRow.holds Try.pinned (OpenSpec.upto hardBackSpec)

/-- 'tensilelaw06.HardAllows', WHERE WHAT IT READS IS OF BULK AT MOST 1048576: true; the input reads as it did. -/
def hardAllowsUptoRow : OpenClaim := { program := "ytohgladndklciaa", sum := "32bea6226023ab2f9fbce8c2cd2e3e3da9a9ba42e9d09fd0cfaec15d09f1afa5", func := "tensile/tensilelaw06.HardAllows", spec := "hardAllows", unfollowed := true, recurses := true, plainKeys := false, apart := false, narrowed := true }
def HardAllowsUptoSaid : Prop := hardAllowsUptoRow.holds Try.pinned (OpenSpec.upto hardAllowsSpec)

/-- 'tensilelaw06.HardBiases', WHERE WHAT IT READS IS OF BULK AT MOST 1048576: true; the input reads as it did. -/
def hardBiasesUptoRow : OpenClaim := { program := "ytohgladndklciaa", sum := "32bea6226023ab2f9fbce8c2cd2e3e3da9a9ba42e9d09fd0cfaec15d09f1afa5", func := "tensile/tensilelaw06.HardBiases", spec := "hardBiases", unfollowed := true, recurses := true, plainKeys := false, apart := false, narrowed := true }
def HardBiasesUptoSaid : Prop := hardBiasesUptoRow.holds Try.pinned (OpenSpec.upto hardBiasesSpec)

/-- 'tensilelaw06.HardFits', WHERE WHAT IT READS IS OF BULK AT MOST 1048576: true; the input reads as it did. -/
def hardFitsUptoRow : OpenClaim := { program := "ytohgladndklciaa", sum := "32bea6226023ab2f9fbce8c2cd2e3e3da9a9ba42e9d09fd0cfaec15d09f1afa5", func := "tensile/tensilelaw06.HardFits", spec := "hardFits", unfollowed := true, recurses := true, plainKeys := false, apart := false, narrowed := true }
def HardFitsUptoSaid : Prop := hardFitsUptoRow.holds Try.pinned (OpenSpec.upto hardFitsSpec)

/-- 'tensilelaw06.HardDoubts', WHERE WHAT IT READS IS OF BULK AT MOST 1048576: true; the input reads as it did. -/
def hardDoubtsUptoRow : OpenClaim := { program := "ytohgladndklciaa", sum := "32bea6226023ab2f9fbce8c2cd2e3e3da9a9ba42e9d09fd0cfaec15d09f1afa5", func := "tensile/tensilelaw06.HardDoubts", spec := "hardDoubts", unfollowed := true, recurses := true, plainKeys := false, apart := false, narrowed := true }
def HardDoubtsUptoSaid : Prop := hardDoubtsUptoRow.holds Try.pinned (OpenSpec.upto hardDoubtsSpec)

/-- 'tensilelaw06.HardDoubtful', WHERE WHAT IT READS IS OF BULK AT MOST 1048576: true; the input reads as it did. -/
def hardDoubtfulUptoRow : OpenClaim := { program := "ytohgladndklciaa", sum := "32bea6226023ab2f9fbce8c2cd2e3e3da9a9ba42e9d09fd0cfaec15d09f1afa5", func := "tensile/tensilelaw06.HardDoubtful", spec := "hardDoubtful", unfollowed := true, recurses := true, plainKeys := false, apart := false, narrowed := true }
def HardDoubtfulUptoSaid : Prop := hardDoubtfulUptoRow.holds Try.pinned (OpenSpec.upto hardDoubtfulSpec)

/-- 'tensilelaw06.HardTruth', WHERE WHAT IT READS IS OF BULK AT MOST 1048576: true; the input reads as it did. -/
def hardTruthUptoRow : OpenClaim := { program := "ytohgladndklciaa", sum := "32bea6226023ab2f9fbce8c2cd2e3e3da9a9ba42e9d09fd0cfaec15d09f1afa5", func := "tensile/tensilelaw06.HardTruth", spec := "hardTruth", unfollowed := true, recurses := true, plainKeys := false, apart := false, narrowed := true }
def HardTruthUptoSaid : Prop := hardTruthUptoRow.holds Try.pinned (OpenSpec.upto hardTruthSpec)

/-- 'tensilelaw06.HardNames', WHERE WHAT IT READS IS OF BULK AT MOST 1048576: true; the input reads as it did. -/
def hardNamesUptoRow : OpenClaim := { program := "ytohgladndklciaa", sum := "32bea6226023ab2f9fbce8c2cd2e3e3da9a9ba42e9d09fd0cfaec15d09f1afa5", func := "tensile/tensilelaw06.HardNames", spec := "hardNames", unfollowed := true, recurses := true, plainKeys := false, apart := false, narrowed := true }
def HardNamesUptoSaid : Prop := hardNamesUptoRow.holds Try.pinned (OpenSpec.upto hardNamesSpec)

end Rows
end Go.Proofs.Ytohgladndklciaa
