/-
  No cell of these rows narrows 'for every input' (looked for: loops, veiled, ifaces, maps, wideKeys, modest, calm, conditions, laid).
  DERIVED. THE GIVEN ROWS OF THIS SEAT. 4 by the template 'for every input the law returns true; each argument reads behind the call as it read before'; 0 by the template 'total and deterministic' (their statements: YtgapdndbelnknaaTotals.lean).
  GIVEN WITH THE SEED: the statements are not yours to turn. If you find one false, say at which input.
  Laid BY PROGRAM, IN A SANDBOX (cutbox-rows.mjs): the forced cells as the released guide's own fill.sh prints them over the translation c59058dbe827f062… (all of the seat's roots in one cut). By AI agents, Wed Nov 11 2026. No macro, syntax, notation, axiom, sorry.
-/
import Derived.Test.YtgapdndbelnknaaChecked
import GoSem.Claim
import GoSem.ClaimJoined
import GoSem.ClaimMapViews
import Derived.JoinedTies
import Derived.KernelRfl
namespace Go.Proofs.Ytgapdndbelnknaa
/- THE CELL 'sum', in the pinned program and in every row, IS THE sha256 OF THE DUMP (.gsa) THAT YtgapdndbelnknaaProg.lean LOADS. Nothing in Lean hashes anything: it is a label: what it is worth is what the hold of that sum in a sandbox is worth. -/
noncomputable def Try.pinned : Pinned := { name := "ytgapdndbelnknaa", sum := "c59058dbe827f062a88bc1cd2de96d4c5dfd02040cbf99df6992bda93d89b0c7", checked := Try.checked }
namespace Rows
def none {H : Type} : Left H := { results := [], args := [] }

/-- 'sleuthlaw22.MyersDiffs': WHATEVER THE INPUT: true; the input reads as it did. -/
def myersDiffsSpec : ChangeSpec := { name := "myersDiffs", fn := fun _ => fun
  | [d1, d2] => { results := [.lit (.bool true)], args := [d1, d2] }
  | _ => none }
def myersDiffsRow : OpenClaim := { program := "ytgapdndbelnknaa", sum := "c59058dbe827f062a88bc1cd2de96d4c5dfd02040cbf99df6992bda93d89b0c7", func := "sleuth/sleuthlaw22.MyersDiffs", spec := "myersDiffs", apart := false }
def MyersDiffsSaid : Prop := myersDiffsRow.holds Try.pinned (OpenSpec.ofChange myersDiffsSpec)

/-- ITS FALSE NEIGHBOUR: 'it returns false'. Refute it at one input. -/
def myersDiffsWrong : ChangeSpec := { name := "myersDiffs", fn := fun _ => fun
  | [d1, d2] => { results := [.lit (.bool false)], args := [d1, d2] }
  | _ => none }
def MyersDiffsWrongFalsely : Prop := myersDiffsRow.holds Try.pinned (OpenSpec.ofChange myersDiffsWrong)

/-- 'sleuthlaw22.MyersDistances': WHATEVER THE INPUT: true; the input reads as it did. -/
def myersDistancesSpec : ChangeSpec := { name := "myersDistances", fn := fun _ => fun
  | [d1, d2] => { results := [.lit (.bool true)], args := [d1, d2] }
  | _ => none }
def myersDistancesRow : OpenClaim := { program := "ytgapdndbelnknaa", sum := "c59058dbe827f062a88bc1cd2de96d4c5dfd02040cbf99df6992bda93d89b0c7", func := "sleuth/sleuthlaw22.MyersDistances", spec := "myersDistances", apart := false }
def MyersDistancesSaid : Prop := myersDistancesRow.holds Try.pinned (OpenSpec.ofChange myersDistancesSpec)

/-- ITS FALSE NEIGHBOUR: 'it returns false'. Refute it at one input. -/
def myersDistancesWrong : ChangeSpec := { name := "myersDistances", fn := fun _ => fun
  | [d1, d2] => { results := [.lit (.bool false)], args := [d1, d2] }
  | _ => none }
def MyersDistancesWrongFalsely : Prop := myersDistancesRow.holds Try.pinned (OpenSpec.ofChange myersDistancesWrong)

/-- 'sleuthlaw22.MyersLeast': WHATEVER THE INPUT: true; the input reads as it did. -/
def myersLeastSpec : ChangeSpec := { name := "myersLeast", fn := fun _ => fun
  | [d1, d2] => { results := [.lit (.bool true)], args := [d1, d2] }
  | _ => none }
def myersLeastRow : OpenClaim := { program := "ytgapdndbelnknaa", sum := "c59058dbe827f062a88bc1cd2de96d4c5dfd02040cbf99df6992bda93d89b0c7", func := "sleuth/sleuthlaw22.MyersLeast", spec := "myersLeast", apart := false }
def MyersLeastSaid : Prop := myersLeastRow.holds Try.pinned (OpenSpec.ofChange myersLeastSpec)

/-- ITS FALSE NEIGHBOUR: 'it returns false'. Refute it at one input. -/
def myersLeastWrong : ChangeSpec := { name := "myersLeast", fn := fun _ => fun
  | [d1, d2] => { results := [.lit (.bool false)], args := [d1, d2] }
  | _ => none }
def MyersLeastWrongFalsely : Prop := myersLeastRow.holds Try.pinned (OpenSpec.ofChange myersLeastWrong)

/-- 'sleuthlaw22.MyersBlocks': WHATEVER THE INPUT: true; the input reads as it did. -/
def myersBlocksSpec : ChangeSpec := { name := "myersBlocks", fn := fun _ => fun
  | [d1, d2, d3] => { results := [.lit (.bool true)], args := [d1, d2, d3] }
  | _ => none }
def myersBlocksRow : OpenClaim := { program := "ytgapdndbelnknaa", sum := "c59058dbe827f062a88bc1cd2de96d4c5dfd02040cbf99df6992bda93d89b0c7", func := "sleuth/sleuthlaw22.MyersBlocks", spec := "myersBlocks", apart := false }
def MyersBlocksSaid : Prop := myersBlocksRow.holds Try.pinned (OpenSpec.ofChange myersBlocksSpec)

/-- ITS FALSE NEIGHBOUR: 'it returns false'. Refute it at one input. -/
def myersBlocksWrong : ChangeSpec := { name := "myersBlocks", fn := fun _ => fun
  | [d1, d2, d3] => { results := [.lit (.bool false)], args := [d1, d2, d3] }
  | _ => none }
def MyersBlocksWrongFalsely : Prop := myersBlocksRow.holds Try.pinned (OpenSpec.ofChange myersBlocksWrong)

/- THE SECOND FORM. 'bulk': how many values and letters a reading holds, each counted each time it is reached (what is shared counts as often as it is met; a slice's spare places count too). A statement '..UptoSaid' is the law's where the arguments, and the package variables that the reading takes, are together of bulk at most 1048576: NARROWER than '..Said'. Prove '..Said' where nothing that the law and all that it calls make is longer than what came in: it says more and counts as full. Else prove '..UptoSaid'. A law counts once. -/
mutual
def uptoBulk {H : Type} : DataW H → Nat
  | .lit (.string bytes) => bytes.length + 1
  | .lit _ => 1
  | .nil => 1
  | .ptr d => uptoBulk d + 1
  | .slice elems spare => uptoBulkAll elems + uptoBulkAll spare + 1
  | .agg parts => uptoBulkAll parts + 1
  | .iface _ d => uptoBulk d + 1
  | .map entries => uptoBulkEntries entries + 1
  | .held _ => 1
def uptoBulkAll {H : Type} : List (DataW H) → Nat
  | [] => 0
  | d :: r => uptoBulk d + uptoBulkAll r
def uptoBulkEntries {H : Type} : List (Lit × DataW H) → Nat
  | [] => 0
  | x :: r => uptoBulkEntry x + uptoBulkEntries r
def uptoBulkEntry {H : Type} : Lit × DataW H → Nat
  | (.string bytes, d) => bytes.length + uptoBulk d + 1
  | (_, d) => uptoBulk d + 1
 end
def uptoSmall : (H : Type) → List (DataW H) → Bool := fun _ ds => decide (uptoBulkAll ds ≤ 1048576)
def OpenSpec.upto (s : _root_.Go.ChangeSpec) : _root_.Go.OpenSpec := { _root_.Go.OpenSpec.ofChange s with cond := some uptoSmall }

/-- 'sleuthlaw22.MyersDiffs', WHERE WHAT IT READS IS OF BULK AT MOST 1048576: true; the input reads as it did. -/
def myersDiffsUptoRow : OpenClaim := { program := "ytgapdndbelnknaa", sum := "c59058dbe827f062a88bc1cd2de96d4c5dfd02040cbf99df6992bda93d89b0c7", func := "sleuth/sleuthlaw22.MyersDiffs", spec := "myersDiffs", apart := false, narrowed := true }
def MyersDiffsUptoSaid : Prop := myersDiffsUptoRow.holds Try.pinned (OpenSpec.upto myersDiffsSpec)

/-- 'sleuthlaw22.MyersDistances', WHERE WHAT IT READS IS OF BULK AT MOST 1048576: true; the input reads as it did. -/
def myersDistancesUptoRow : OpenClaim := { program := "ytgapdndbelnknaa", sum := "c59058dbe827f062a88bc1cd2de96d4c5dfd02040cbf99df6992bda93d89b0c7", func := "sleuth/sleuthlaw22.MyersDistances", spec := "myersDistances", apart := false, narrowed := true }
def MyersDistancesUptoSaid : Prop := myersDistancesUptoRow.holds Try.pinned (OpenSpec.upto myersDistancesSpec)

/-- 'sleuthlaw22.MyersLeast', WHERE WHAT IT READS IS OF BULK AT MOST 1048576: true; the input reads as it did. -/
def myersLeastUptoRow : OpenClaim := { program := "ytgapdndbelnknaa", sum := "c59058dbe827f062a88bc1cd2de96d4c5dfd02040cbf99df6992bda93d89b0c7", func := "sleuth/sleuthlaw22.MyersLeast", spec := "myersLeast", apart := false, narrowed := true }
def MyersLeastUptoSaid : Prop := myersLeastUptoRow.holds Try.pinned (OpenSpec.upto myersLeastSpec)

/-- 'sleuthlaw22.MyersBlocks', WHERE WHAT IT READS IS OF BULK AT MOST 1048576: true; the input reads as it did. -/
def myersBlocksUptoRow : OpenClaim := { program := "ytgapdndbelnknaa", sum := "c59058dbe827f062a88bc1cd2de96d4c5dfd02040cbf99df6992bda93d89b0c7", func := "sleuth/sleuthlaw22.MyersBlocks", spec := "myersBlocks", apart := false, narrowed := true }
def MyersBlocksUptoSaid : Prop := myersBlocksUptoRow.holds Try.pinned (OpenSpec.upto myersBlocksSpec)

end Rows
end Go.Proofs.Ytgapdndbelnknaa
