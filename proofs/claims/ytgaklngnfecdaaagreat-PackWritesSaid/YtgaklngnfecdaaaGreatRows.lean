/-
  No cell of these rows narrows 'for every input' (looked for: loops, veiled, ifaces, maps, wideKeys, modest, calm, conditions, laid).
  DERIVED. THE GIVEN ROWS OF THIS SEAT. 8 by the template 'for every input the law returns true; each argument reads behind the call as it read before'; 0 by the template 'total and deterministic' (their statements: YtgaklngnfecdaaaGreatTotals.lean).
  GIVEN WITH THE SEED: the statements are not yours to turn. If you find one false, say at which input.
  Laid BY PROGRAM, IN A SANDBOX (cutbox-rows.mjs): the forced cells as the released guide's own fill.sh prints them over the translation 930d04f6fb2355c7… (all of the seat's roots in one cut). By AI agents, Wed Nov 11 2026. No macro, syntax, notation, axiom, sorry.
-/
import Derived.Test.YtgaklngnfecdaaaGreatChecked
import GoSem.Claim
import GoSem.ClaimJoined
import GoSem.ClaimMapViews
import Derived.JoinedTies
import Derived.KernelRfl
namespace Go.Proofs.YtgaklngnfecdaaaGreat
/- THE CELL 'sum', in the pinned program and in every row, IS THE sha256 OF THE DUMP (.gsa) THAT YtgaklngnfecdaaaGreatProg.lean LOADS. Nothing in Lean hashes anything: it is a label: what it is worth is what the hold of that sum in a sandbox is worth. -/
noncomputable def Tryz.pinned : Pinned := { name := "ytgaklngnfecdaaagreat", sum := "930d04f6fb2355c7b3475c77656fe8ff0c9de8583ed0e46f8fae50ba6160160e", checked := Tryz.checked }
namespace Rows
def none {H : Type} : Left H := { results := [], args := [] }

/-- 'sleuthlaw08.ObjectBytes': WHATEVER THE INPUT: true; the input reads as it did. -/
def objectBytesSpec : ChangeSpec := { name := "objectBytes", fn := fun _ => fun
  | [d1, d2, d3] => { results := [.lit (.bool true)], args := [d1, d2, d3] }
  | _ => none }
def objectBytesRow : OpenClaim := { program := "ytgaklngnfecdaaagreat", sum := "930d04f6fb2355c7b3475c77656fe8ff0c9de8583ed0e46f8fae50ba6160160e", func := "sleuth/sleuthlaw08.ObjectBytes", spec := "objectBytes", inPlace := ["internal/bytealg.IndexByte", "internal/bytealg.Index", "internal/bytealg.IndexByteString", "internal/bytealg.IndexString", "internal/bytealg.abigen_runtime_cmpstring"], unfollowed := true, recurses := true, named := ["internal/bytealg.MaxLen"], plainKeys := false, apart := false }
def ObjectBytesSaid : Prop := objectBytesRow.holds Tryz.pinned (OpenSpec.ofChange objectBytesSpec)

/-- ITS FALSE NEIGHBOUR: 'it returns false'. Refute it at one input. -/
def objectBytesWrong : ChangeSpec := { name := "objectBytes", fn := fun _ => fun
  | [d1, d2, d3] => { results := [.lit (.bool false)], args := [d1, d2, d3] }
  | _ => none }
def ObjectBytesWrongFalsely : Prop := objectBytesRow.holds Tryz.pinned (OpenSpec.ofChange objectBytesWrong)

/-- 'sleuthlaw08.ObjectSplits': WHATEVER THE INPUT: true; the input reads as it did. -/
def objectSplitsSpec : ChangeSpec := { name := "objectSplits", fn := fun _ => fun
  | [d] => { results := [.lit (.bool true)], args := [d] }
  | _ => none }
def objectSplitsRow : OpenClaim := { program := "ytgaklngnfecdaaagreat", sum := "930d04f6fb2355c7b3475c77656fe8ff0c9de8583ed0e46f8fae50ba6160160e", func := "sleuth/sleuthlaw08.ObjectSplits", spec := "objectSplits", inPlace := ["internal/bytealg.IndexByte", "internal/bytealg.Index", "internal/bytealg.IndexByteString", "internal/bytealg.IndexString", "internal/bytealg.abigen_runtime_cmpstring"], unfollowed := true, recurses := true, named := ["internal/bytealg.MaxLen"], plainKeys := false, apart := false }
def ObjectSplitsSaid : Prop := objectSplitsRow.holds Tryz.pinned (OpenSpec.ofChange objectSplitsSpec)

/-- ITS FALSE NEIGHBOUR: 'it returns false'. Refute it at one input. -/
def objectSplitsWrong : ChangeSpec := { name := "objectSplits", fn := fun _ => fun
  | [d] => { results := [.lit (.bool false)], args := [d] }
  | _ => none }
def ObjectSplitsWrongFalsely : Prop := objectSplitsRow.holds Tryz.pinned (OpenSpec.ofChange objectSplitsWrong)

/-- 'sleuthlaw08.ObjectNames': WHATEVER THE INPUT: true; the input reads as it did. -/
def objectNamesSpec : ChangeSpec := { name := "objectNames", fn := fun _ => fun
  | [d1, d2] => { results := [.lit (.bool true)], args := [d1, d2] }
  | _ => none }
def objectNamesRow : OpenClaim := { program := "ytgaklngnfecdaaagreat", sum := "930d04f6fb2355c7b3475c77656fe8ff0c9de8583ed0e46f8fae50ba6160160e", func := "sleuth/sleuthlaw08.ObjectNames", spec := "objectNames", inPlace := ["internal/bytealg.IndexByte", "internal/bytealg.Index", "internal/bytealg.IndexByteString", "internal/bytealg.IndexString", "internal/bytealg.abigen_runtime_cmpstring"], unfollowed := true, recurses := true, named := ["internal/bytealg.MaxLen"], plainKeys := false, apart := false }
def ObjectNamesSaid : Prop := objectNamesRow.holds Tryz.pinned (OpenSpec.ofChange objectNamesSpec)

/-- ITS FALSE NEIGHBOUR: 'it returns false'. Refute it at one input. -/
def objectNamesWrong : ChangeSpec := { name := "objectNames", fn := fun _ => fun
  | [d1, d2] => { results := [.lit (.bool false)], args := [d1, d2] }
  | _ => none }
def ObjectNamesWrongFalsely : Prop := objectNamesRow.holds Tryz.pinned (OpenSpec.ofChange objectNamesWrong)

/-- 'sleuthlaw10.PackWrites': WHATEVER THE INPUT: true; the input reads as it did. -/
def packWritesSpec : ChangeSpec := { name := "packWrites", fn := fun _ => fun
  | [d1, d2] => { results := [.lit (.bool true)], args := [d1, d2] }
  | _ => none }
def packWritesRow : OpenClaim := { program := "ytgaklngnfecdaaagreat", sum := "930d04f6fb2355c7b3475c77656fe8ff0c9de8583ed0e46f8fae50ba6160160e", func := "sleuth/sleuthlaw10.PackWrites", spec := "packWrites", inPlace := ["internal/bytealg.IndexByte", "internal/bytealg.Index", "internal/bytealg.IndexByteString", "internal/bytealg.IndexString", "internal/bytealg.abigen_runtime_cmpstring"], unfollowed := true, recurses := true, named := ["internal/bytealg.MaxLen"], plainKeys := false, apart := false }
def PackWritesSaid : Prop := packWritesRow.holds Tryz.pinned (OpenSpec.ofChange packWritesSpec)

/-- ITS FALSE NEIGHBOUR: 'it returns false'. Refute it at one input. -/
def packWritesWrong : ChangeSpec := { name := "packWrites", fn := fun _ => fun
  | [d1, d2] => { results := [.lit (.bool false)], args := [d1, d2] }
  | _ => none }
def PackWritesWrongFalsely : Prop := packWritesRow.holds Tryz.pinned (OpenSpec.ofChange packWritesWrong)

/-- 'sleuthlaw10.PackReads': WHATEVER THE INPUT: true; the input reads as it did. -/
def packReadsSpec : ChangeSpec := { name := "packReads", fn := fun _ => fun
  | [d1, d2] => { results := [.lit (.bool true)], args := [d1, d2] }
  | _ => none }
def packReadsRow : OpenClaim := { program := "ytgaklngnfecdaaagreat", sum := "930d04f6fb2355c7b3475c77656fe8ff0c9de8583ed0e46f8fae50ba6160160e", func := "sleuth/sleuthlaw10.PackReads", spec := "packReads", inPlace := ["internal/bytealg.IndexByte", "internal/bytealg.Index", "internal/bytealg.IndexByteString", "internal/bytealg.IndexString", "internal/bytealg.abigen_runtime_cmpstring"], unfollowed := true, recurses := true, named := ["internal/bytealg.MaxLen"], plainKeys := false, apart := false }
def PackReadsSaid : Prop := packReadsRow.holds Tryz.pinned (OpenSpec.ofChange packReadsSpec)

/-- ITS FALSE NEIGHBOUR: 'it returns false'. Refute it at one input. -/
def packReadsWrong : ChangeSpec := { name := "packReads", fn := fun _ => fun
  | [d1, d2] => { results := [.lit (.bool false)], args := [d1, d2] }
  | _ => none }
def PackReadsWrongFalsely : Prop := packReadsRow.holds Tryz.pinned (OpenSpec.ofChange packReadsWrong)

/-- 'sleuthlaw10.PackTurned': WHATEVER THE INPUT: true; the input reads as it did. -/
def packTurnedSpec : ChangeSpec := { name := "packTurned", fn := fun _ => fun
  | [d1, d2, d3] => { results := [.lit (.bool true)], args := [d1, d2, d3] }
  | _ => none }
def packTurnedRow : OpenClaim := { program := "ytgaklngnfecdaaagreat", sum := "930d04f6fb2355c7b3475c77656fe8ff0c9de8583ed0e46f8fae50ba6160160e", func := "sleuth/sleuthlaw10.PackTurned", spec := "packTurned", inPlace := ["internal/bytealg.IndexByte", "internal/bytealg.Index", "internal/bytealg.IndexByteString", "internal/bytealg.IndexString", "internal/bytealg.abigen_runtime_cmpstring"], unfollowed := true, recurses := true, named := ["internal/bytealg.MaxLen"], plainKeys := false, apart := false }
def PackTurnedSaid : Prop := packTurnedRow.holds Tryz.pinned (OpenSpec.ofChange packTurnedSpec)

/-- ITS FALSE NEIGHBOUR: 'it returns false'. Refute it at one input. -/
def packTurnedWrong : ChangeSpec := { name := "packTurned", fn := fun _ => fun
  | [d1, d2, d3] => { results := [.lit (.bool false)], args := [d1, d2, d3] }
  | _ => none }
def PackTurnedWrongFalsely : Prop := packTurnedRow.holds Tryz.pinned (OpenSpec.ofChange packTurnedWrong)

/-- 'sleuthlaw10.PackScans': WHATEVER THE INPUT: true; the input reads as it did. -/
def packScansSpec : ChangeSpec := { name := "packScans", fn := fun _ => fun
  | [d] => { results := [.lit (.bool true)], args := [d] }
  | _ => none }
def packScansRow : OpenClaim := { program := "ytgaklngnfecdaaagreat", sum := "930d04f6fb2355c7b3475c77656fe8ff0c9de8583ed0e46f8fae50ba6160160e", func := "sleuth/sleuthlaw10.PackScans", spec := "packScans", inPlace := ["internal/bytealg.IndexByte", "internal/bytealg.Index", "internal/bytealg.IndexByteString", "internal/bytealg.IndexString", "internal/bytealg.abigen_runtime_cmpstring"], unfollowed := true, recurses := true, named := ["internal/bytealg.MaxLen"], plainKeys := false, apart := false }
def PackScansSaid : Prop := packScansRow.holds Tryz.pinned (OpenSpec.ofChange packScansSpec)

/-- ITS FALSE NEIGHBOUR: 'it returns false'. Refute it at one input. -/
def packScansWrong : ChangeSpec := { name := "packScans", fn := fun _ => fun
  | [d] => { results := [.lit (.bool false)], args := [d] }
  | _ => none }
def PackScansWrongFalsely : Prop := packScansRow.holds Tryz.pinned (OpenSpec.ofChange packScansWrong)

/-- 'sleuthlaw10.PackBack': WHATEVER THE INPUT: true; the input reads as it did. -/
def packBackSpec : ChangeSpec := { name := "packBack", fn := fun _ => fun
  | [d1, d2] => { results := [.lit (.bool true)], args := [d1, d2] }
  | _ => none }
def packBackRow : OpenClaim := { program := "ytgaklngnfecdaaagreat", sum := "930d04f6fb2355c7b3475c77656fe8ff0c9de8583ed0e46f8fae50ba6160160e", func := "sleuth/sleuthlaw10.PackBack", spec := "packBack", inPlace := ["internal/bytealg.IndexByte", "internal/bytealg.Index", "internal/bytealg.IndexByteString", "internal/bytealg.IndexString", "internal/bytealg.abigen_runtime_cmpstring"], unfollowed := true, recurses := true, named := ["internal/bytealg.MaxLen"], plainKeys := false, apart := false }
def PackBackSaid : Prop := packBackRow.holds Tryz.pinned (OpenSpec.ofChange packBackSpec)

/-- ITS FALSE NEIGHBOUR: 'it returns false'. Refute it at one input. -/
def packBackWrong : ChangeSpec := { name := "packBack", fn := fun _ => fun
  | [d1, d2] => { results := [.lit (.bool false)], args := [d1, d2] }
  | _ => none }
def PackBackWrongFalsely : Prop := packBackRow.holds Tryz.pinned (OpenSpec.ofChange packBackWrong)

/- THE SECOND FORM. 'bulk': how many values and letters a reading holds, each counted each time it is reached (what is shared counts as often as it is met; a slice's spare places count too). A statement '..UptoSaid' is the law's where the arguments, and the package variables that the reading takes, are together of bulk at most 1048576: NARROWER than '..Said'. Prove '..Said' where nothing that the law and all that it calls make is longer than what came in: it says more and counts as full. Else prove '..UptoSaid'. A law counts once. -/
mutual
def uptoBulk {H : Type} : DataW H → Nat
  | .lit (.string bytes) => bytes.length + 1
  | .lit _ => 1
  | .nil => 1
  | .ptr d => uptoBulk d + 1
  | .slice elems spare => uptoBulkAll elems + uptoBulkAll spare + 1
  | .agg parts => uptoBulkAll parts + 1
  | .iface _ d => uptoBulk d + 1
  | .map entries => uptoBulkEntries entries + 1
  | .held _ => 1
def uptoBulkAll {H : Type} : List (DataW H) → Nat
  | [] => 0
  | d :: r => uptoBulk d + uptoBulkAll r
def uptoBulkEntries {H : Type} : List (Lit × DataW H) → Nat
  | [] => 0
  | x :: r => uptoBulkEntry x + uptoBulkEntries r
def uptoBulkEntry {H : Type} : Lit × DataW H → Nat
  | (.string bytes, d) => bytes.length + uptoBulk d + 1
  | (_, d) => uptoBulk d + 1
 end
def uptoSmall : (H : Type) → List (DataW H) → Bool := fun _ ds => decide (uptoBulkAll ds ≤ 1048576)
def OpenSpec.upto (s : _root_.Go.ChangeSpec) : _root_.Go.OpenSpec := { _root_.Go.OpenSpec.ofChange s with cond := some uptoSmall }

/-- 'sleuthlaw08.ObjectBytes', WHERE WHAT IT READS IS OF BULK AT MOST 1048576: true; the input reads as it did. -/
def objectBytesUptoRow : OpenClaim := { program := "ytgaklngnfecdaaagreat", sum := "930d04f6fb2355c7b3475c77656fe8ff0c9de8583ed0e46f8fae50ba6160160e", func := "sleuth/sleuthlaw08.ObjectBytes", spec := "objectBytes", inPlace := ["internal/bytealg.IndexByte", "internal/bytealg.Index", "internal/bytealg.IndexByteString", "internal/bytealg.IndexString", "internal/bytealg.abigen_runtime_cmpstring"], unfollowed := true, recurses := true, named := ["internal/bytealg.MaxLen"], plainKeys := false, apart := false, narrowed := true }
def ObjectBytesUptoSaid : Prop := objectBytesUptoRow.holds Tryz.pinned (OpenSpec.upto objectBytesSpec)

/-- 'sleuthlaw08.ObjectSplits', WHERE WHAT IT READS IS OF BULK AT MOST 1048576: true; the input reads as it did. -/
def objectSplitsUptoRow : OpenClaim := { program := "ytgaklngnfecdaaagreat", sum := "930d04f6fb2355c7b3475c77656fe8ff0c9de8583ed0e46f8fae50ba6160160e", func := "sleuth/sleuthlaw08.ObjectSplits", spec := "objectSplits", inPlace := ["internal/bytealg.IndexByte", "internal/bytealg.Index", "internal/bytealg.IndexByteString", "internal/bytealg.IndexString", "internal/bytealg.abigen_runtime_cmpstring"], unfollowed := true, recurses := true, named := ["internal/bytealg.MaxLen"], plainKeys := false, apart := false, narrowed := true }
def ObjectSplitsUptoSaid : Prop := objectSplitsUptoRow.holds Tryz.pinned (OpenSpec.upto objectSplitsSpec)

/-- 'sleuthlaw08.ObjectNames', WHERE WHAT IT READS IS OF BULK AT MOST 1048576: true; the input reads as it did. -/
def objectNamesUptoRow : OpenClaim := { program := "ytgaklngnfecdaaagreat", sum := "930d04f6fb2355c7b3475c77656fe8ff0c9de8583ed0e46f8fae50ba6160160e", func := "sleuth/sleuthlaw08.ObjectNames", spec := "objectNames", inPlace := ["internal/bytealg.IndexByte", "internal/bytealg.Index", "internal/bytealg.IndexByteString", "internal/bytealg.IndexString", "internal/bytealg.abigen_runtime_cmpstring"], unfollowed := true, recurses := true, named := ["internal/bytealg.MaxLen"], plainKeys := false, apart := false, narrowed := true }
def ObjectNamesUptoSaid : Prop := objectNamesUptoRow.holds Tryz.pinned (OpenSpec.upto objectNamesSpec)

/-- 'sleuthlaw10.PackWrites', WHERE WHAT IT READS IS OF BULK AT MOST 1048576: true; the input reads as it did. -/
def packWritesUptoRow : OpenClaim := { program := "ytgaklngnfecdaaagreat", sum := "930d04f6fb2355c7b3475c77656fe8ff0c9de8583ed0e46f8fae50ba6160160e", func := "sleuth/sleuthlaw10.PackWrites", spec := "packWrites", inPlace := ["internal/bytealg.IndexByte", "internal/bytealg.Index", "internal/bytealg.IndexByteString", "internal/bytealg.IndexString", "internal/bytealg.abigen_runtime_cmpstring"], unfollowed := true, recurses := true, named := ["internal/bytealg.MaxLen"], plainKeys := false, apart := false, narrowed := true }
def PackWritesUptoSaid : Prop := packWritesUptoRow.holds Tryz.pinned (OpenSpec.upto packWritesSpec)

/-- 'sleuthlaw10.PackReads', WHERE WHAT IT READS IS OF BULK AT MOST 1048576: true; the input reads as it did. -/
def packReadsUptoRow : OpenClaim := { program := "ytgaklngnfecdaaagreat", sum := "930d04f6fb2355c7b3475c77656fe8ff0c9de8583ed0e46f8fae50ba6160160e", func := "sleuth/sleuthlaw10.PackReads", spec := "packReads", inPlace := ["internal/bytealg.IndexByte", "internal/bytealg.Index", "internal/bytealg.IndexByteString", "internal/bytealg.IndexString", "internal/bytealg.abigen_runtime_cmpstring"], unfollowed := true, recurses := true, named := ["internal/bytealg.MaxLen"], plainKeys := false, apart := false, narrowed := true }
def PackReadsUptoSaid : Prop := packReadsUptoRow.holds Tryz.pinned (OpenSpec.upto packReadsSpec)

/-- 'sleuthlaw10.PackTurned', WHERE WHAT IT READS IS OF BULK AT MOST 1048576: true; the input reads as it did. -/
def packTurnedUptoRow : OpenClaim := { program := "ytgaklngnfecdaaagreat", sum := "930d04f6fb2355c7b3475c77656fe8ff0c9de8583ed0e46f8fae50ba6160160e", func := "sleuth/sleuthlaw10.PackTurned", spec := "packTurned", inPlace := ["internal/bytealg.IndexByte", "internal/bytealg.Index", "internal/bytealg.IndexByteString", "internal/bytealg.IndexString", "internal/bytealg.abigen_runtime_cmpstring"], unfollowed := true, recurses := true, named := ["internal/bytealg.MaxLen"], plainKeys := false, apart := false, narrowed := true }
def PackTurnedUptoSaid : Prop := packTurnedUptoRow.holds Tryz.pinned (OpenSpec.upto packTurnedSpec)

/-- 'sleuthlaw10.PackScans', WHERE WHAT IT READS IS OF BULK AT MOST 1048576: true; the input reads as it did. -/
def packScansUptoRow : OpenClaim := { program := "ytgaklngnfecdaaagreat", sum := "930d04f6fb2355c7b3475c77656fe8ff0c9de8583ed0e46f8fae50ba6160160e", func := "sleuth/sleuthlaw10.PackScans", spec := "packScans", inPlace := ["internal/bytealg.IndexByte", "internal/bytealg.Index", "internal/bytealg.IndexByteString", "internal/bytealg.IndexString", "internal/bytealg.abigen_runtime_cmpstring"], unfollowed := true, recurses := true, named := ["internal/bytealg.MaxLen"], plainKeys := false, apart := false, narrowed := true }
def PackScansUptoSaid : Prop := packScansUptoRow.holds Tryz.pinned (OpenSpec.upto packScansSpec)

/-- 'sleuthlaw10.PackBack', WHERE WHAT IT READS IS OF BULK AT MOST 1048576: true; the input reads as it did. -/
def packBackUptoRow : OpenClaim := { program := "ytgaklngnfecdaaagreat", sum := "930d04f6fb2355c7b3475c77656fe8ff0c9de8583ed0e46f8fae50ba6160160e", func := "sleuth/sleuthlaw10.PackBack", spec := "packBack", inPlace := ["internal/bytealg.IndexByte", "internal/bytealg.Index", "internal/bytealg.IndexByteString", "internal/bytealg.IndexString", "internal/bytealg.abigen_runtime_cmpstring"], unfollowed := true, recurses := true, named := ["internal/bytealg.MaxLen"], plainKeys := false, apart := false, narrowed := true }
def PackBackUptoSaid : Prop := packBackUptoRow.holds Tryz.pinned (OpenSpec.upto packBackSpec)

end Rows
end Go.Proofs.YtgaklngnfecdaaaGreat
