/-
  No cell of these rows narrows 'for every input' (looked for: loops, veiled, ifaces, maps, wideKeys, modest, calm, conditions, laid).
  DERIVED. THE GIVEN ROWS OF THIS SEAT. 6 by the template 'for every input the law returns true; each argument reads behind the call as it read before'; 0 by the template 'total and deterministic' (their statements: YtblbcmkhgjlpcaaTotals.lean).
  GIVEN WITH THE SEED: the statements are not yours to turn. If you find one false, say at which input.
  Laid BY PROGRAM, IN A SANDBOX (cutbox-rows.mjs): the forced cells as the released guide's own fill.sh prints them over the translation ccf7b1997e7f1f76… (all of the seat's roots in one cut). By AI agents, Wed Nov 11 2026. No macro, syntax, notation, axiom, sorry.
-/
import Derived.Test.YtblbcmkhgjlpcaaChecked
import GoSem.Claim
import GoSem.ClaimJoined
import GoSem.ClaimMapViews
import Derived.JoinedTies
import Derived.KernelRfl
namespace Go.Proofs.Ytblbcmkhgjlpcaa
/- THE CELL 'sum', in the pinned program and in every row, IS THE sha256 OF THE DUMP (.gsa) THAT YtblbcmkhgjlpcaaProg.lean LOADS. Nothing in Lean hashes anything: it is a label: what it is worth is what the hold of that sum in a sandbox is worth. -/
noncomputable def Try.pinned : Pinned := { name := "ytblbcmkhgjlpcaa", sum := "ccf7b1997e7f1f76a552aa90a831bb46dde48e6b6d8972674ef468d14c22d9e3", checked := Try.checked }
namespace Rows
def none {H : Type} : Left H := { results := [], args := [] }

/-- 'sleuthlaw04.OidReads': WHATEVER THE INPUT: true; the input reads as it did. -/
def oidReadsSpec : ChangeSpec := { name := "oidReads", fn := fun _ => fun
  | [d1, d2] => { results := [.lit (.bool true)], args := [d1, d2] }
  | _ => none }
def oidReadsRow : OpenClaim := { program := "ytblbcmkhgjlpcaa", sum := "ccf7b1997e7f1f76a552aa90a831bb46dde48e6b6d8972674ef468d14c22d9e3", func := "sleuth/sleuthlaw04.OidReads", spec := "oidReads", apart := false }
def OidReadsSaid : Prop := oidReadsRow.holds Try.pinned (OpenSpec.ofChange oidReadsSpec)

/-- ITS FALSE NEIGHBOUR: 'it returns false'. Refute it at one input. -/
def oidReadsWrong : ChangeSpec := { name := "oidReads", fn := fun _ => fun
  | [d1, d2] => { results := [.lit (.bool false)], args := [d1, d2] }
  | _ => none }
def OidReadsWrongFalsely : Prop := oidReadsRow.holds Try.pinned (OpenSpec.ofChange oidReadsWrong)

/-- 'sleuthlaw04.OidBack': WHATEVER THE INPUT: true; the input reads as it did. -/
def oidBackSpec : ChangeSpec := { name := "oidBack", fn := fun _ => fun
  | [d1, d2] => { results := [.lit (.bool true)], args := [d1, d2] }
  | _ => none }
def oidBackRow : OpenClaim := { program := "ytblbcmkhgjlpcaa", sum := "ccf7b1997e7f1f76a552aa90a831bb46dde48e6b6d8972674ef468d14c22d9e3", func := "sleuth/sleuthlaw04.OidBack", spec := "oidBack", apart := false }
def OidBackSaid : Prop := oidBackRow.holds Try.pinned (OpenSpec.ofChange oidBackSpec)

/-- ITS FALSE NEIGHBOUR: 'it returns false'. Refute it at one input. -/
def oidBackWrong : ChangeSpec := { name := "oidBack", fn := fun _ => fun
  | [d1, d2] => { results := [.lit (.bool false)], args := [d1, d2] }
  | _ => none }
def OidBackWrongFalsely : Prop := oidBackRow.holds Try.pinned (OpenSpec.ofChange oidBackWrong)

/-- 'sleuthlaw04.OidFits': WHATEVER THE INPUT: true; the input reads as it did. -/
def oidFitsSpec : ChangeSpec := { name := "oidFits", fn := fun _ => fun
  | [d1, d2, d3] => { results := [.lit (.bool true)], args := [d1, d2, d3] }
  | _ => none }
def oidFitsRow : OpenClaim := { program := "ytblbcmkhgjlpcaa", sum := "ccf7b1997e7f1f76a552aa90a831bb46dde48e6b6d8972674ef468d14c22d9e3", func := "sleuth/sleuthlaw04.OidFits", spec := "oidFits", apart := false }
def OidFitsSaid : Prop := oidFitsRow.holds Try.pinned (OpenSpec.ofChange oidFitsSpec)

/-- ITS FALSE NEIGHBOUR: 'it returns false'. Refute it at one input. -/
def oidFitsWrong : ChangeSpec := { name := "oidFits", fn := fun _ => fun
  | [d1, d2, d3] => { results := [.lit (.bool false)], args := [d1, d2, d3] }
  | _ => none }
def OidFitsWrongFalsely : Prop := oidFitsRow.holds Try.pinned (OpenSpec.ofChange oidFitsWrong)

/-- 'sleuthlaw04.OidRanges': WHATEVER THE INPUT: true; the input reads as it did. -/
def oidRangesSpec : ChangeSpec := { name := "oidRanges", fn := fun _ => fun
  | [d] => { results := [.lit (.bool true)], args := [d] }
  | _ => none }
def oidRangesRow : OpenClaim := { program := "ytblbcmkhgjlpcaa", sum := "ccf7b1997e7f1f76a552aa90a831bb46dde48e6b6d8972674ef468d14c22d9e3", func := "sleuth/sleuthlaw04.OidRanges", spec := "oidRanges", apart := false }
def OidRangesSaid : Prop := oidRangesRow.holds Try.pinned (OpenSpec.ofChange oidRangesSpec)

/-- ITS FALSE NEIGHBOUR: 'it returns false'. Refute it at one input. -/
def oidRangesWrong : ChangeSpec := { name := "oidRanges", fn := fun _ => fun
  | [d] => { results := [.lit (.bool false)], args := [d] }
  | _ => none }
def OidRangesWrongFalsely : Prop := oidRangesRow.holds Try.pinned (OpenSpec.ofChange oidRangesWrong)

/-- 'sleuthlaw04.OidBeside': WHATEVER THE INPUT: true; the input reads as it did. -/
def oidBesideSpec : ChangeSpec := { name := "oidBeside", fn := fun _ => fun
  | [d1, d2, d3] => { results := [.lit (.bool true)], args := [d1, d2, d3] }
  | _ => none }
def oidBesideRow : OpenClaim := { program := "ytblbcmkhgjlpcaa", sum := "ccf7b1997e7f1f76a552aa90a831bb46dde48e6b6d8972674ef468d14c22d9e3", func := "sleuth/sleuthlaw04.OidBeside", spec := "oidBeside", apart := false }
def OidBesideSaid : Prop := oidBesideRow.holds Try.pinned (OpenSpec.ofChange oidBesideSpec)

/-- ITS FALSE NEIGHBOUR: 'it returns false'. Refute it at one input. -/
def oidBesideWrong : ChangeSpec := { name := "oidBeside", fn := fun _ => fun
  | [d1, d2, d3] => { results := [.lit (.bool false)], args := [d1, d2, d3] }
  | _ => none }
def OidBesideWrongFalsely : Prop := oidBesideRow.holds Try.pinned (OpenSpec.ofChange oidBesideWrong)

/-- 'sleuthlaw04.OidLists': WHATEVER THE INPUT: true; the input reads as it did. -/
def oidListsSpec : ChangeSpec := { name := "oidLists", fn := fun _ => fun
  | [d1, d2] => { results := [.lit (.bool true)], args := [d1, d2] }
  | _ => none }
def oidListsRow : OpenClaim := { program := "ytblbcmkhgjlpcaa", sum := "ccf7b1997e7f1f76a552aa90a831bb46dde48e6b6d8972674ef468d14c22d9e3", func := "sleuth/sleuthlaw04.OidLists", spec := "oidLists", unfollowed := true, recurses := true, apart := false }
def OidListsSaid : Prop := oidListsRow.holds Try.pinned (OpenSpec.ofChange oidListsSpec)

/-- ITS FALSE NEIGHBOUR: 'it returns false'. Refute it at one input. -/
def oidListsWrong : ChangeSpec := { name := "oidLists", fn := fun _ => fun
  | [d1, d2] => { results := [.lit (.bool false)], args := [d1, d2] }
  | _ => none }
def OidListsWrongFalsely : Prop := oidListsRow.holds Try.pinned (OpenSpec.ofChange oidListsWrong)

/- THE SECOND FORM. 'bulk': how many values and letters a reading holds, each counted each time it is reached (what is shared counts as often as it is met; a slice's spare places count too). A statement '..UptoSaid' is the law's where the arguments, and the package variables that the reading takes, are together of bulk at most 1048576: NARROWER than '..Said'. Prove '..Said' where nothing that the law and all that it calls make is longer than what came in: it says more and counts as full. Else prove '..UptoSaid'. A law counts once. -/
mutual
def uptoBulk {H : Type} : DataW H → Nat
  | .lit (.string bytes) => bytes.length + 1
  | .lit _ => 1
  | .nil => 1
  | .ptr d => uptoBulk d + 1
  | .slice elems spare => uptoBulkAll elems + uptoBulkAll spare + 1
  | .agg parts => uptoBulkAll parts + 1
  | .iface _ d => uptoBulk d + 1
  | .map entries => uptoBulkEntries entries + 1
  | .held _ => 1
def uptoBulkAll {H : Type} : List (DataW H) → Nat
  | [] => 0
  | d :: r => uptoBulk d + uptoBulkAll r
def uptoBulkEntries {H : Type} : List (Lit × DataW H) → Nat
  | [] => 0
  | x :: r => uptoBulkEntry x + uptoBulkEntries r
def uptoBulkEntry {H : Type} : Lit × DataW H → Nat
  | (.string bytes, d) => bytes.length + uptoBulk d + 1
  | (_, d) => uptoBulk d + 1
 end
def uptoSmall : (H : Type) → List (DataW H) → Bool := fun _ ds => decide (uptoBulkAll ds ≤ 1048576)
def OpenSpec.upto (s : _root_.Go.ChangeSpec) : _root_.Go.OpenSpec := { _root_.Go.OpenSpec.ofChange s with cond := some uptoSmall }

/-- 'sleuthlaw04.OidReads', WHERE WHAT IT READS IS OF BULK AT MOST 1048576: true; the input reads as it did. -/
def oidReadsUptoRow : OpenClaim := { program := "ytblbcmkhgjlpcaa", sum := "ccf7b1997e7f1f76a552aa90a831bb46dde48e6b6d8972674ef468d14c22d9e3", func := "sleuth/sleuthlaw04.OidReads", spec := "oidReads", apart := false, narrowed := true }
def OidReadsUptoSaid : Prop := oidReadsUptoRow.holds Try.pinned (OpenSpec.upto oidReadsSpec)

/-- 'sleuthlaw04.OidBack', WHERE WHAT IT READS IS OF BULK AT MOST 1048576: true; the input reads as it did. -/
def oidBackUptoRow : OpenClaim := { program := "ytblbcmkhgjlpcaa", sum := "ccf7b1997e7f1f76a552aa90a831bb46dde48e6b6d8972674ef468d14c22d9e3", func := "sleuth/sleuthlaw04.OidBack", spec := "oidBack", apart := false, narrowed := true }
def OidBackUptoSaid : Prop := oidBackUptoRow.holds Try.pinned (OpenSpec.upto oidBackSpec)

/-- 'sleuthlaw04.OidFits', WHERE WHAT IT READS IS OF BULK AT MOST 1048576: true; the input reads as it did. -/
def oidFitsUptoRow : OpenClaim := { program := "ytblbcmkhgjlpcaa", sum := "ccf7b1997e7f1f76a552aa90a831bb46dde48e6b6d8972674ef468d14c22d9e3", func := "sleuth/sleuthlaw04.OidFits", spec := "oidFits", apart := false, narrowed := true }
def OidFitsUptoSaid : Prop := oidFitsUptoRow.holds Try.pinned (OpenSpec.upto oidFitsSpec)

/-- 'sleuthlaw04.OidRanges', WHERE WHAT IT READS IS OF BULK AT MOST 1048576: true; the input reads as it did. -/
def oidRangesUptoRow : OpenClaim := { program := "ytblbcmkhgjlpcaa", sum := "ccf7b1997e7f1f76a552aa90a831bb46dde48e6b6d8972674ef468d14c22d9e3", func := "sleuth/sleuthlaw04.OidRanges", spec := "oidRanges", apart := false, narrowed := true }
def OidRangesUptoSaid : Prop := oidRangesUptoRow.holds Try.pinned (OpenSpec.upto oidRangesSpec)

/-- 'sleuthlaw04.OidBeside', WHERE WHAT IT READS IS OF BULK AT MOST 1048576: true; the input reads as it did. -/
def oidBesideUptoRow : OpenClaim := { program := "ytblbcmkhgjlpcaa", sum := "ccf7b1997e7f1f76a552aa90a831bb46dde48e6b6d8972674ef468d14c22d9e3", func := "sleuth/sleuthlaw04.OidBeside", spec := "oidBeside", apart := false, narrowed := true }
def OidBesideUptoSaid : Prop := oidBesideUptoRow.holds Try.pinned (OpenSpec.upto oidBesideSpec)

/-- 'sleuthlaw04.OidLists', WHERE WHAT IT READS IS OF BULK AT MOST 1048576: true; the input reads as it did. -/
def oidListsUptoRow : OpenClaim := { program := "ytblbcmkhgjlpcaa", sum := "ccf7b1997e7f1f76a552aa90a831bb46dde48e6b6d8972674ef468d14c22d9e3", func := "sleuth/sleuthlaw04.OidLists", spec := "oidLists", unfollowed := true, recurses := true, apart := false, narrowed := true }
def OidListsUptoSaid : Prop := oidListsUptoRow.holds Try.pinned (OpenSpec.upto oidListsSpec)

end Rows
end Go.Proofs.Ytblbcmkhgjlpcaa
