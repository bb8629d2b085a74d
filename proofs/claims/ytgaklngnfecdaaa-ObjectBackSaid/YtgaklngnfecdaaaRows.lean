/-
  No cell of these rows narrows 'for every input' (looked for: loops, veiled, ifaces, maps, wideKeys, modest, calm, conditions, laid).
  DERIVED. THE GIVEN ROWS OF THIS SEAT. 11 by the template 'for every input the law returns true; each argument reads behind the call as it read before'; 0 by the template 'total and deterministic' (their statements: YtgaklngnfecdaaaTotals.lean).
  GIVEN WITH THE SEED: the statements are not yours to turn. If you find one false, say at which input.
  Laid BY PROGRAM, IN A SANDBOX (cutbox-rows.mjs): the forced cells as the released guide's own fill.sh prints them over the translation 83eda4cac58e0ac5… (all of the seat's roots in one cut). By AI agents, Wed Nov 11 2026. No macro, syntax, notation, axiom, sorry.
-/
import Derived.Test.YtgaklngnfecdaaaChecked
import GoSem.Claim
import GoSem.ClaimJoined
import GoSem.ClaimMapViews
import Derived.JoinedTies
import Derived.KernelRfl
namespace Go.Proofs.Ytgaklngnfecdaaa
/- THE CELL 'sum', in the pinned program and in every row, IS THE sha256 OF THE DUMP (.gsa) THAT YtgaklngnfecdaaaProg.lean LOADS. Nothing in Lean hashes anything: it is a label: what it is worth is what the hold of that sum in a sandbox is worth. -/
noncomputable def Try.pinned : Pinned := { name := "ytgaklngnfecdaaa", sum := "83eda4cac58e0ac55c9d3a6d54c99e7de98fd2f375b557295863a7faa6dcead0", checked := Try.checked }
namespace Rows
def none {H : Type} : Left H := { results := [], args := [] }

/-- 'sleuthlaw07.RevPuts': WHATEVER THE INPUT: true; the input reads as it did. -/
def revPutsSpec : ChangeSpec := { name := "revPuts", fn := fun _ => fun
  | [d1, d2, d3] => { results := [.lit (.bool true)], args := [d1, d2, d3] }
  | _ => none }
def revPutsRow : OpenClaim := { program := "ytgaklngnfecdaaa", sum := "83eda4cac58e0ac55c9d3a6d54c99e7de98fd2f375b557295863a7faa6dcead0", func := "sleuth/sleuthlaw07.RevPuts", spec := "revPuts", inPlace := ["internal/bytealg.IndexByteString", "internal/bytealg.IndexString", "internal/abi.NoEscape"], unfollowed := true, recurses := true, named := ["internal/bytealg.MaxLen"], apart := false }
def RevPutsSaid : Prop := revPutsRow.holds Try.pinned (OpenSpec.ofChange revPutsSpec)

/-- ITS FALSE NEIGHBOUR: 'it returns false'. Refute it at one input. -/
def revPutsWrong : ChangeSpec := { name := "revPuts", fn := fun _ => fun
  | [d1, d2, d3] => { results := [.lit (.bool false)], args := [d1, d2, d3] }
  | _ => none }
def RevPutsWrongFalsely : Prop := revPutsRow.holds Try.pinned (OpenSpec.ofChange revPutsWrong)

/-- 'sleuthlaw11.IndexMakes': WHATEVER THE INPUT: true; the input reads as it did. -/
def indexMakesSpec : ChangeSpec := { name := "indexMakes", fn := fun _ => fun
  | [d1, d2] => { results := [.lit (.bool true)], args := [d1, d2] }
  | _ => none }
def indexMakesRow : OpenClaim := { program := "ytgaklngnfecdaaa", sum := "83eda4cac58e0ac55c9d3a6d54c99e7de98fd2f375b557295863a7faa6dcead0", func := "sleuth/sleuthlaw11.IndexMakes", spec := "indexMakes", unfollowed := true, recurses := true, apart := false }
def IndexMakesSaid : Prop := indexMakesRow.holds Try.pinned (OpenSpec.ofChange indexMakesSpec)

/-- ITS FALSE NEIGHBOUR: 'it returns false'. Refute it at one input. -/
def indexMakesWrong : ChangeSpec := { name := "indexMakes", fn := fun _ => fun
  | [d1, d2] => { results := [.lit (.bool false)], args := [d1, d2] }
  | _ => none }
def IndexMakesWrongFalsely : Prop := indexMakesRow.holds Try.pinned (OpenSpec.ofChange indexMakesWrong)

/-- 'sleuthlaw11.IndexOpens': WHATEVER THE INPUT: true; the input reads as it did. -/
def indexOpensSpec : ChangeSpec := { name := "indexOpens", fn := fun _ => fun
  | [d] => { results := [.lit (.bool true)], args := [d] }
  | _ => none }
def indexOpensRow : OpenClaim := { program := "ytgaklngnfecdaaa", sum := "83eda4cac58e0ac55c9d3a6d54c99e7de98fd2f375b557295863a7faa6dcead0", func := "sleuth/sleuthlaw11.IndexOpens", spec := "indexOpens", unfollowed := true, recurses := true, apart := false }
def IndexOpensSaid : Prop := indexOpensRow.holds Try.pinned (OpenSpec.ofChange indexOpensSpec)

/-- ITS FALSE NEIGHBOUR: 'it returns false'. Refute it at one input. -/
def indexOpensWrong : ChangeSpec := { name := "indexOpens", fn := fun _ => fun
  | [d] => { results := [.lit (.bool false)], args := [d] }
  | _ => none }
def IndexOpensWrongFalsely : Prop := indexOpensRow.holds Try.pinned (OpenSpec.ofChange indexOpensWrong)

/-- 'sleuthlaw11.IndexBack': WHATEVER THE INPUT: true; the input reads as it did. -/
def indexBackSpec : ChangeSpec := { name := "indexBack", fn := fun _ => fun
  | [d1, d2, d3] => { results := [.lit (.bool true)], args := [d1, d2, d3] }
  | _ => none }
def indexBackRow : OpenClaim := { program := "ytgaklngnfecdaaa", sum := "83eda4cac58e0ac55c9d3a6d54c99e7de98fd2f375b557295863a7faa6dcead0", func := "sleuth/sleuthlaw11.IndexBack", spec := "indexBack", unfollowed := true, recurses := true, apart := false }
def IndexBackSaid : Prop := indexBackRow.holds Try.pinned (OpenSpec.ofChange indexBackSpec)

/-- ITS FALSE NEIGHBOUR: 'it returns false'. Refute it at one input. -/
def indexBackWrong : ChangeSpec := { name := "indexBack", fn := fun _ => fun
  | [d1, d2, d3] => { results := [.lit (.bool false)], args := [d1, d2, d3] }
  | _ => none }
def IndexBackWrongFalsely : Prop := indexBackRow.holds Try.pinned (OpenSpec.ofChange indexBackWrong)

/-- 'sleuthlaw07.RevGets': WHATEVER THE INPUT: true; the input reads as it did. -/
def revGetsSpec : ChangeSpec := { name := "revGets", fn := fun _ => fun
  | [d] => { results := [.lit (.bool true)], args := [d] }
  | _ => none }
def revGetsRow : OpenClaim := { program := "ytgaklngnfecdaaa", sum := "83eda4cac58e0ac55c9d3a6d54c99e7de98fd2f375b557295863a7faa6dcead0", func := "sleuth/sleuthlaw07.RevGets", spec := "revGets", inPlace := ["internal/bytealg.IndexByteString", "internal/bytealg.IndexString", "internal/abi.NoEscape"], unfollowed := true, recurses := true, named := ["internal/bytealg.MaxLen"], apart := false }
def RevGetsSaid : Prop := revGetsRow.holds Try.pinned (OpenSpec.ofChange revGetsSpec)

/-- ITS FALSE NEIGHBOUR: 'it returns false'. Refute it at one input. -/
def revGetsWrong : ChangeSpec := { name := "revGets", fn := fun _ => fun
  | [d] => { results := [.lit (.bool false)], args := [d] }
  | _ => none }
def RevGetsWrongFalsely : Prop := revGetsRow.holds Try.pinned (OpenSpec.ofChange revGetsWrong)

/-- 'sleuthlaw07.RevBack': WHATEVER THE INPUT: true; the input reads as it did. -/
def revBackSpec : ChangeSpec := { name := "revBack", fn := fun _ => fun
  | [d1, d2, d3] => { results := [.lit (.bool true)], args := [d1, d2, d3] }
  | _ => none }
def revBackRow : OpenClaim := { program := "ytgaklngnfecdaaa", sum := "83eda4cac58e0ac55c9d3a6d54c99e7de98fd2f375b557295863a7faa6dcead0", func := "sleuth/sleuthlaw07.RevBack", spec := "revBack", inPlace := ["internal/bytealg.IndexByteString", "internal/bytealg.IndexString", "internal/abi.NoEscape"], unfollowed := true, recurses := true, named := ["internal/bytealg.MaxLen"], apart := false }
def RevBackSaid : Prop := revBackRow.holds Try.pinned (OpenSpec.ofChange revBackSpec)

/-- ITS FALSE NEIGHBOUR: 'it returns false'. Refute it at one input. -/
def revBackWrong : ChangeSpec := { name := "revBack", fn := fun _ => fun
  | [d1, d2, d3] => { results := [.lit (.bool false)], args := [d1, d2, d3] }
  | _ => none }
def RevBackWrongFalsely : Prop := revBackRow.holds Try.pinned (OpenSpec.ofChange revBackWrong)

/-- 'sleuthlaw07.RevMarks': WHATEVER THE INPUT: true; the input reads as it did. -/
def revMarksSpec : ChangeSpec := { name := "revMarks", fn := fun _ => fun
  | [d1, d2] => { results := [.lit (.bool true)], args := [d1, d2] }
  | _ => none }
def revMarksRow : OpenClaim := { program := "ytgaklngnfecdaaa", sum := "83eda4cac58e0ac55c9d3a6d54c99e7de98fd2f375b557295863a7faa6dcead0", func := "sleuth/sleuthlaw07.RevMarks", spec := "revMarks", inPlace := ["internal/bytealg.IndexByteString", "internal/bytealg.IndexString", "internal/abi.NoEscape"], unfollowed := true, recurses := true, named := ["internal/bytealg.MaxLen"], apart := false }
def RevMarksSaid : Prop := revMarksRow.holds Try.pinned (OpenSpec.ofChange revMarksSpec)

/-- ITS FALSE NEIGHBOUR: 'it returns false'. Refute it at one input. -/
def revMarksWrong : ChangeSpec := { name := "revMarks", fn := fun _ => fun
  | [d1, d2] => { results := [.lit (.bool false)], args := [d1, d2] }
  | _ => none }
def RevMarksWrongFalsely : Prop := revMarksRow.holds Try.pinned (OpenSpec.ofChange revMarksWrong)

/-- 'sleuthlaw07.RevMarkBack': WHATEVER THE INPUT: true; the input reads as it did. -/
def revMarkBackSpec : ChangeSpec := { name := "revMarkBack", fn := fun _ => fun
  | [d1, d2] => { results := [.lit (.bool true)], args := [d1, d2] }
  | _ => none }
def revMarkBackRow : OpenClaim := { program := "ytgaklngnfecdaaa", sum := "83eda4cac58e0ac55c9d3a6d54c99e7de98fd2f375b557295863a7faa6dcead0", func := "sleuth/sleuthlaw07.RevMarkBack", spec := "revMarkBack", inPlace := ["internal/bytealg.IndexByteString", "internal/bytealg.IndexString", "internal/abi.NoEscape"], unfollowed := true, recurses := true, named := ["internal/bytealg.MaxLen"], apart := false }
def RevMarkBackSaid : Prop := revMarkBackRow.holds Try.pinned (OpenSpec.ofChange revMarkBackSpec)

/-- ITS FALSE NEIGHBOUR: 'it returns false'. Refute it at one input. -/
def revMarkBackWrong : ChangeSpec := { name := "revMarkBack", fn := fun _ => fun
  | [d1, d2] => { results := [.lit (.bool false)], args := [d1, d2] }
  | _ => none }
def RevMarkBackWrongFalsely : Prop := revMarkBackRow.holds Try.pinned (OpenSpec.ofChange revMarkBackWrong)

/-- 'sleuthlaw11.IndexFinds': WHATEVER THE INPUT: true; the input reads as it did. -/
def indexFindsSpec : ChangeSpec := { name := "indexFinds", fn := fun _ => fun
  | [d1, d2, d3] => { results := [.lit (.bool true)], args := [d1, d2, d3] }
  | _ => none }
def indexFindsRow : OpenClaim := { program := "ytgaklngnfecdaaa", sum := "83eda4cac58e0ac55c9d3a6d54c99e7de98fd2f375b557295863a7faa6dcead0", func := "sleuth/sleuthlaw11.IndexFinds", spec := "indexFinds", unfollowed := true, recurses := true, apart := false }
def IndexFindsSaid : Prop := indexFindsRow.holds Try.pinned (OpenSpec.ofChange indexFindsSpec)

/-- ITS FALSE NEIGHBOUR: 'it returns false'. Refute it at one input. -/
def indexFindsWrong : ChangeSpec := { name := "indexFinds", fn := fun _ => fun
  | [d1, d2, d3] => { results := [.lit (.bool false)], args := [d1, d2, d3] }
  | _ => none }
def IndexFindsWrongFalsely : Prop := indexFindsRow.holds Try.pinned (OpenSpec.ofChange indexFindsWrong)

/-- 'sleuthlaw11.IndexNone': WHATEVER THE INPUT: true; the input reads as it did. -/
def indexNoneSpec : ChangeSpec := { name := "indexNone", fn := fun _ => fun
  | [d1, d2, d3] => { results := [.lit (.bool true)], args := [d1, d2, d3] }
  | _ => none }
def indexNoneRow : OpenClaim := { program := "ytgaklngnfecdaaa", sum := "83eda4cac58e0ac55c9d3a6d54c99e7de98fd2f375b557295863a7faa6dcead0", func := "sleuth/sleuthlaw11.IndexNone", spec := "indexNone", unfollowed := true, recurses := true, apart := false }
def IndexNoneSaid : Prop := indexNoneRow.holds Try.pinned (OpenSpec.ofChange indexNoneSpec)

/-- ITS FALSE NEIGHBOUR: 'it returns false'. Refute it at one input. -/
def indexNoneWrong : ChangeSpec := { name := "indexNone", fn := fun _ => fun
  | [d1, d2, d3] => { results := [.lit (.bool false)], args := [d1, d2, d3] }
  | _ => none }
def IndexNoneWrongFalsely : Prop := indexNoneRow.holds Try.pinned (OpenSpec.ofChange indexNoneWrong)

/-- 'sleuthlaw08.ObjectBack': WHATEVER THE INPUT: true; the input reads as it did. -/
def objectBackSpec : ChangeSpec := { name := "objectBack", fn := fun _ => fun
  | [d1, d2, d3] => { results := [.lit (.bool true)], args := [d1, d2, d3] }
  | _ => none }
def objectBackRow : OpenClaim := { program := "ytgaklngnfecdaaa", sum := "83eda4cac58e0ac55c9d3a6d54c99e7de98fd2f375b557295863a7faa6dcead0", func := "sleuth/sleuthlaw08.ObjectBack", spec := "objectBack", inPlace := ["internal/bytealg.IndexByte", "internal/bytealg.Index", "internal/bytealg.IndexByteString", "internal/bytealg.IndexString", "internal/bytealg.abigen_runtime_cmpstring"], unfollowed := true, recurses := true, named := ["internal/bytealg.MaxLen"], apart := false }
def ObjectBackSaid : Prop := objectBackRow.holds Try.pinned (OpenSpec.ofChange objectBackSpec)

/-- ITS FALSE NEIGHBOUR: 'it returns false'. Refute it at one input. -/
def objectBackWrong : ChangeSpec := { name := "objectBack", fn := fun _ => fun
  | [d1, d2, d3] => { results := [.lit (.bool false)], args := [d1, d2, d3] }
  | _ => none }
def ObjectBackWrongFalsely : Prop := objectBackRow.holds Try.pinned (OpenSpec.ofChange objectBackWrong)

/- THE SECOND FORM. 'bulk': how many values and letters a reading holds, each counted each time it is reached (what is shared counts as often as it is met; a slice's spare places count too). A statement '..UptoSaid' is the law's where the arguments, and the package variables that the reading takes, are together of bulk at most 1048576: NARROWER than '..Said'. Prove '..Said' where nothing that the law and all that it calls make is longer than what came in: it says more and counts as full. Else prove '..UptoSaid'. A law counts once. -/
mutual
def uptoBulk {H : Type} : DataW H → Nat
  | .lit (.string bytes) => bytes.length + 1
  | .lit _ => 1
  | .nil => 1
  | .ptr d => uptoBulk d + 1
  | .slice elems spare => uptoBulkAll elems + uptoBulkAll spare + 1
  | .agg parts => uptoBulkAll parts + 1
  | .iface _ d => uptoBulk d + 1
  | .map entries => uptoBulkEntries entries + 1
  | .held _ => 1
def uptoBulkAll {H : Type} : List (DataW H) → Nat
  | [] => 0
  | d :: r => uptoBulk d + uptoBulkAll r
def uptoBulkEntries {H : Type} : List (Lit × DataW H) → Nat
  | [] => 0
  | x :: r => uptoBulkEntry x + uptoBulkEntries r
def uptoBulkEntry {H : Type} : Lit × DataW H → Nat
  | (.string bytes, d) => bytes.length + uptoBulk d + 1
  | (_, d) => uptoBulk d + 1
 end
def uptoSmall : (H : Type) → List (DataW H) → Bool := fun _ ds => decide (uptoBulkAll ds ≤ 1048576)
def OpenSpec.upto (s : _root_.Go.ChangeSpec) : _root_.Go.OpenSpec := { _root_.Go.OpenSpec.ofChange s with cond := some uptoSmall }

/-- 'sleuthlaw07.RevPuts', WHERE WHAT IT READS IS OF BULK AT MOST 1048576: true; the input reads as it did. -/
def revPutsUptoRow : OpenClaim := { program := "ytgaklngnfecdaaa", sum := "83eda4cac58e0ac55c9d3a6d54c99e7de98fd2f375b557295863a7faa6dcead0", func := "sleuth/sleuthlaw07.RevPuts", spec := "revPuts", inPlace := ["internal/bytealg.IndexByteString", "internal/bytealg.IndexString", "internal/abi.NoEscape"], unfollowed := true, recurses := true, named := ["internal/bytealg.MaxLen"], apart := false, narrowed := true }
def RevPutsUptoSaid : Prop := revPutsUptoRow.holds Try.pinned (OpenSpec.upto revPutsSpec)

/-- 'sleuthlaw11.IndexMakes', WHERE WHAT IT READS IS OF BULK AT MOST 1048576: true; the input reads as it did. -/
def indexMakesUptoRow : OpenClaim := { program := "ytgaklngnfecdaaa", sum := "83eda4cac58e0ac55c9d3a6d54c99e7de98fd2f375b557295863a7faa6dcead0", func := "sleuth/sleuthlaw11.IndexMakes", spec := "indexMakes", unfollowed := true, recurses := true, apart := false, narrowed := true }
def IndexMakesUptoSaid : Prop := indexMakesUptoRow.holds Try.pinned (OpenSpec.upto indexMakesSpec)

/-- 'sleuthlaw11.IndexOpens', WHERE WHAT IT READS IS OF BULK AT MOST 1048576: true; the input reads as it did. -/
def indexOpensUptoRow : OpenClaim := { program := "ytgaklngnfecdaaa", sum := "83eda4cac58e0ac55c9d3a6d54c99e7de98fd2f375b557295863a7faa6dcead0", func := "sleuth/sleuthlaw11.IndexOpens", spec := "indexOpens", unfollowed := true, recurses := true, apart := false, narrowed := true }
def IndexOpensUptoSaid : Prop := indexOpensUptoRow.holds Try.pinned (OpenSpec.upto indexOpensSpec)

/-- 'sleuthlaw11.IndexBack', WHERE WHAT IT READS IS OF BULK AT MOST 1048576: true; the input reads as it did. -/
def indexBackUptoRow : OpenClaim := { program := "ytgaklngnfecdaaa", sum := "83eda4cac58e0ac55c9d3a6d54c99e7de98fd2f375b557295863a7faa6dcead0", func := "sleuth/sleuthlaw11.IndexBack", spec := "indexBack", unfollowed := true, recurses := true, apart := false, narrowed := true }
def IndexBackUptoSaid : Prop := indexBackUptoRow.holds Try.pinned (OpenSpec.upto indexBackSpec)

/-- 'sleuthlaw07.RevGets', WHERE WHAT IT READS IS OF BULK AT MOST 1048576: true; the input reads as it did. -/
def revGetsUptoRow : OpenClaim := { program := "ytgaklngnfecdaaa", sum := "83eda4cac58e0ac55c9d3a6d54c99e7de98fd2f375b557295863a7faa6dcead0", func := "sleuth/sleuthlaw07.RevGets", spec := "revGets", inPlace := ["internal/bytealg.IndexByteString", "internal/bytealg.IndexString", "internal/abi.NoEscape"], unfollowed := true, recurses := true, named := ["internal/bytealg.MaxLen"], apart := false, narrowed := true }
def RevGetsUptoSaid : Prop := revGetsUptoRow.holds Try.pinned (OpenSpec.upto revGetsSpec)

/-- 'sleuthlaw07.RevBack', WHERE WHAT IT READS IS OF BULK AT MOST 1048576: true; the input reads as it did. -/
def revBackUptoRow : OpenClaim := { program := "ytgaklngnfecdaaa", sum := "83eda4cac58e0ac55c9d3a6d54c99e7de98fd2f375b557295863a7faa6dcead0", func := "sleuth/sleuthlaw07.RevBack", spec := "revBack", inPlace := ["internal/bytealg.IndexByteString", "internal/bytealg.IndexString", "internal/abi.NoEscape"], unfollowed := true, recurses := true, named := ["internal/bytealg.MaxLen"], apart := false, narrowed := true }
def RevBackUptoSaid : Prop := revBackUptoRow.holds Try.pinned (OpenSpec.upto revBackSpec)

/-- 'sleuthlaw07.RevMarks', WHERE WHAT IT READS IS OF BULK AT MOST 1048576: true; the input reads as it did. -/
def revMarksUptoRow : OpenClaim := { program := "ytgaklngnfecdaaa", sum := "83eda4cac58e0ac55c9d3a6d54c99e7de98fd2f375b557295863a7faa6dcead0", func := "sleuth/sleuthlaw07.RevMarks", spec := "revMarks", inPlace := ["internal/bytealg.IndexByteString", "internal/bytealg.IndexString", "internal/abi.NoEscape"], unfollowed := true, recurses := true, named := ["internal/bytealg.MaxLen"], apart := false, narrowed := true }
def RevMarksUptoSaid : Prop := revMarksUptoRow.holds Try.pinned (OpenSpec.upto revMarksSpec)

/-- 'sleuthlaw07.RevMarkBack', WHERE WHAT IT READS IS OF BULK AT MOST 1048576: true; the input reads as it did. -/
def revMarkBackUptoRow : OpenClaim := { program := "ytgaklngnfecdaaa", sum := "83eda4cac58e0ac55c9d3a6d54c99e7de98fd2f375b557295863a7faa6dcead0", func := "sleuth/sleuthlaw07.RevMarkBack", spec := "revMarkBack", inPlace := ["internal/bytealg.IndexByteString", "internal/bytealg.IndexString", "internal/abi.NoEscape"], unfollowed := true, recurses := true, named := ["internal/bytealg.MaxLen"], apart := false, narrowed := true }
def RevMarkBackUptoSaid : Prop := revMarkBackUptoRow.holds Try.pinned (OpenSpec.upto revMarkBackSpec)

/-- 'sleuthlaw11.IndexFinds', WHERE WHAT IT READS IS OF BULK AT MOST 1048576: true; the input reads as it did. -/
def indexFindsUptoRow : OpenClaim := { program := "ytgaklngnfecdaaa", sum := "83eda4cac58e0ac55c9d3a6d54c99e7de98fd2f375b557295863a7faa6dcead0", func := "sleuth/sleuthlaw11.IndexFinds", spec := "indexFinds", unfollowed := true, recurses := true, apart := false, narrowed := true }
def IndexFindsUptoSaid : Prop := indexFindsUptoRow.holds Try.pinned (OpenSpec.upto indexFindsSpec)

/-- 'sleuthlaw11.IndexNone', WHERE WHAT IT READS IS OF BULK AT MOST 1048576: true; the input reads as it did. -/
def indexNoneUptoRow : OpenClaim := { program := "ytgaklngnfecdaaa", sum := "83eda4cac58e0ac55c9d3a6d54c99e7de98fd2f375b557295863a7faa6dcead0", func := "sleuth/sleuthlaw11.IndexNone", spec := "indexNone", unfollowed := true, recurses := true, apart := false, narrowed := true }
def IndexNoneUptoSaid : Prop := indexNoneUptoRow.holds Try.pinned (OpenSpec.upto indexNoneSpec)

/-- 'sleuthlaw08.ObjectBack', WHERE WHAT IT READS IS OF BULK AT MOST 1048576: true; the input reads as it did. -/
def objectBackUptoRow : OpenClaim := { program := "ytgaklngnfecdaaa", sum := "83eda4cac58e0ac55c9d3a6d54c99e7de98fd2f375b557295863a7faa6dcead0", func := "sleuth/sleuthlaw08.ObjectBack", spec := "objectBack", inPlace := ["internal/bytealg.IndexByte", "internal/bytealg.Index", "internal/bytealg.IndexByteString", "internal/bytealg.IndexString", "internal/bytealg.abigen_runtime_cmpstring"], unfollowed := true, recurses := true, named := ["internal/bytealg.MaxLen"], apart := false, narrowed := true }
def ObjectBackUptoSaid : Prop := objectBackUptoRow.holds Try.pinned (OpenSpec.upto objectBackSpec)

end Rows
end Go.Proofs.Ytgaklngnfecdaaa
