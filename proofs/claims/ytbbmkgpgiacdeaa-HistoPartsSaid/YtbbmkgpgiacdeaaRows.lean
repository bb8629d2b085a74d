/-
  No cell of these rows narrows 'for every input' (looked for: loops, veiled, ifaces, maps, wideKeys, modest, calm, conditions, laid).
  DERIVED. THE GIVEN ROWS OF THIS SEAT. 8 by the template 'for every input the law returns true; each argument reads behind the call as it read before'; 0 by the template 'total and deterministic' (their statements: YtbbmkgpgiacdeaaTotals.lean).
  GIVEN WITH THE SEED: the statements are not yours to turn. If you find one false, say at which input.
  Laid BY PROGRAM, IN A SANDBOX (cutbox-rows.mjs): the forced cells as the released guide's own fill.sh prints them over the translation 338cc2763923778d… (all of the seat's roots in one cut). By AI agents, Wed Nov 11 2026. No macro, syntax, notation, axiom, sorry.
-/
import Derived.Test.YtbbmkgpgiacdeaaChecked
import GoSem.Claim
import GoSem.ClaimJoined
import GoSem.ClaimMapViews
import Derived.JoinedTies
import Derived.KernelRfl
namespace Go.Proofs.Ytbbmkgpgiacdeaa
/- THE CELL 'sum', in the pinned program and in every row, IS THE sha256 OF THE DUMP (.gsa) THAT YtbbmkgpgiacdeaaProg.lean LOADS. Nothing in Lean hashes anything: it is a label: what it is worth is what the hold of that sum in a sandbox is worth. -/
noncomputable def Try.pinned : Pinned := { name := "ytbbmkgpgiacdeaa", sum := "338cc2763923778dd54797b54dafcb7a0d583391e738e308bce0263b4a49caf2", checked := Try.checked }
namespace Rows
def none {H : Type} : Left H := { results := [], args := [] }

/-- 'sleuthlaw24.HistoOften': WHATEVER THE INPUT: true; the input reads as it did. -/
def histoOftenSpec : ChangeSpec := { name := "histoOften", fn := fun _ => fun
  | [d1, d2, d3] => { results := [.lit (.bool true)], args := [d1, d2, d3] }
  | _ => none }
def histoOftenRow : OpenClaim := { program := "ytbbmkgpgiacdeaa", sum := "338cc2763923778dd54797b54dafcb7a0d583391e738e308bce0263b4a49caf2", func := "sleuth/sleuthlaw24.HistoOften", spec := "histoOften", unfollowed := true, recurses := true, apart := false }
def HistoOftenSaid : Prop := histoOftenRow.holds Try.pinned (OpenSpec.ofChange histoOftenSpec)

/-- ITS FALSE NEIGHBOUR: 'it returns false'. Refute it at one input. -/
def histoOftenWrong : ChangeSpec := { name := "histoOften", fn := fun _ => fun
  | [d1, d2, d3] => { results := [.lit (.bool false)], args := [d1, d2, d3] }
  | _ => none }
def HistoOftenWrongFalsely : Prop := histoOftenRow.holds Try.pinned (OpenSpec.ofChange histoOftenWrong)

/-- 'sleuthlaw24.HistoKeeps': WHATEVER THE INPUT: true; the input reads as it did. -/
def histoKeepsSpec : ChangeSpec := { name := "histoKeeps", fn := fun _ => fun
  | [d1, d2] => { results := [.lit (.bool true)], args := [d1, d2] }
  | _ => none }
def histoKeepsRow : OpenClaim := { program := "ytbbmkgpgiacdeaa", sum := "338cc2763923778dd54797b54dafcb7a0d583391e738e308bce0263b4a49caf2", func := "sleuth/sleuthlaw24.HistoKeeps", spec := "histoKeeps", unfollowed := true, recurses := true, apart := false }
def HistoKeepsSaid : Prop := histoKeepsRow.holds Try.pinned (OpenSpec.ofChange histoKeepsSpec)

/-- ITS FALSE NEIGHBOUR: 'it returns false'. Refute it at one input. -/
def histoKeepsWrong : ChangeSpec := { name := "histoKeeps", fn := fun _ => fun
  | [d1, d2] => { results := [.lit (.bool false)], args := [d1, d2] }
  | _ => none }
def HistoKeepsWrongFalsely : Prop := histoKeepsRow.holds Try.pinned (OpenSpec.ofChange histoKeepsWrong)

/-- 'sleuthlaw24.HistoParts': WHATEVER THE INPUT: true; the input reads as it did. -/
def histoPartsSpec : ChangeSpec := { name := "histoParts", fn := fun _ => fun
  | [d1, d2] => { results := [.lit (.bool true)], args := [d1, d2] }
  | _ => none }
def histoPartsRow : OpenClaim := { program := "ytbbmkgpgiacdeaa", sum := "338cc2763923778dd54797b54dafcb7a0d583391e738e308bce0263b4a49caf2", func := "sleuth/sleuthlaw24.HistoParts", spec := "histoParts", unfollowed := true, recurses := true, apart := false }
def HistoPartsSaid : Prop := histoPartsRow.holds Try.pinned (OpenSpec.ofChange histoPartsSpec)

/-- ITS FALSE NEIGHBOUR: 'it returns false'. Refute it at one input. -/
def histoPartsWrong : ChangeSpec := { name := "histoParts", fn := fun _ => fun
  | [d1, d2] => { results := [.lit (.bool false)], args := [d1, d2] }
  | _ => none }
def HistoPartsWrongFalsely : Prop := histoPartsRow.holds Try.pinned (OpenSpec.ofChange histoPartsWrong)

/-- 'sleuthlaw24.HistoDiffs': WHATEVER THE INPUT: true; the input reads as it did. -/
def histoDiffsSpec : ChangeSpec := { name := "histoDiffs", fn := fun _ => fun
  | [d1, d2, d3] => { results := [.lit (.bool true)], args := [d1, d2, d3] }
  | _ => none }
def histoDiffsRow : OpenClaim := { program := "ytbbmkgpgiacdeaa", sum := "338cc2763923778dd54797b54dafcb7a0d583391e738e308bce0263b4a49caf2", func := "sleuth/sleuthlaw24.HistoDiffs", spec := "histoDiffs", unfollowed := true, recurses := true, apart := false }
def HistoDiffsSaid : Prop := histoDiffsRow.holds Try.pinned (OpenSpec.ofChange histoDiffsSpec)

/-- ITS FALSE NEIGHBOUR: 'it returns false'. Refute it at one input. -/
def histoDiffsWrong : ChangeSpec := { name := "histoDiffs", fn := fun _ => fun
  | [d1, d2, d3] => { results := [.lit (.bool false)], args := [d1, d2, d3] }
  | _ => none }
def HistoDiffsWrongFalsely : Prop := histoDiffsRow.holds Try.pinned (OpenSpec.ofChange histoDiffsWrong)

/-- 'sleuthlaw23.PatienceOnce': WHATEVER THE INPUT: true; the input reads as it did. -/
def patienceOnceSpec : ChangeSpec := { name := "patienceOnce", fn := fun _ => fun
  | [d1, d2] => { results := [.lit (.bool true)], args := [d1, d2] }
  | _ => none }
def patienceOnceRow : OpenClaim := { program := "ytbbmkgpgiacdeaa", sum := "338cc2763923778dd54797b54dafcb7a0d583391e738e308bce0263b4a49caf2", func := "sleuth/sleuthlaw23.PatienceOnce", spec := "patienceOnce", unfollowed := true, recurses := true, apart := false }
def PatienceOnceSaid : Prop := patienceOnceRow.holds Try.pinned (OpenSpec.ofChange patienceOnceSpec)

/-- ITS FALSE NEIGHBOUR: 'it returns false'. Refute it at one input. -/
def patienceOnceWrong : ChangeSpec := { name := "patienceOnce", fn := fun _ => fun
  | [d1, d2] => { results := [.lit (.bool false)], args := [d1, d2] }
  | _ => none }
def PatienceOnceWrongFalsely : Prop := patienceOnceRow.holds Try.pinned (OpenSpec.ofChange patienceOnceWrong)

/-- 'sleuthlaw23.PatienceChains': WHATEVER THE INPUT: true; the input reads as it did. -/
def patienceChainsSpec : ChangeSpec := { name := "patienceChains", fn := fun _ => fun
  | [d] => { results := [.lit (.bool true)], args := [d] }
  | _ => none }
def patienceChainsRow : OpenClaim := { program := "ytbbmkgpgiacdeaa", sum := "338cc2763923778dd54797b54dafcb7a0d583391e738e308bce0263b4a49caf2", func := "sleuth/sleuthlaw23.PatienceChains", spec := "patienceChains", unfollowed := true, recurses := true, apart := false }
def PatienceChainsSaid : Prop := patienceChainsRow.holds Try.pinned (OpenSpec.ofChange patienceChainsSpec)

/-- ITS FALSE NEIGHBOUR: 'it returns false'. Refute it at one input. -/
def patienceChainsWrong : ChangeSpec := { name := "patienceChains", fn := fun _ => fun
  | [d] => { results := [.lit (.bool false)], args := [d] }
  | _ => none }
def PatienceChainsWrongFalsely : Prop := patienceChainsRow.holds Try.pinned (OpenSpec.ofChange patienceChainsWrong)

/-- 'sleuthlaw23.PatienceDiffs': WHATEVER THE INPUT: true; the input reads as it did. -/
def patienceDiffsSpec : ChangeSpec := { name := "patienceDiffs", fn := fun _ => fun
  | [d1, d2, d3] => { results := [.lit (.bool true)], args := [d1, d2, d3] }
  | _ => none }
def patienceDiffsRow : OpenClaim := { program := "ytbbmkgpgiacdeaa", sum := "338cc2763923778dd54797b54dafcb7a0d583391e738e308bce0263b4a49caf2", func := "sleuth/sleuthlaw23.PatienceDiffs", spec := "patienceDiffs", unfollowed := true, recurses := true, apart := false }
def PatienceDiffsSaid : Prop := patienceDiffsRow.holds Try.pinned (OpenSpec.ofChange patienceDiffsSpec)

/-- ITS FALSE NEIGHBOUR: 'it returns false'. Refute it at one input. -/
def patienceDiffsWrong : ChangeSpec := { name := "patienceDiffs", fn := fun _ => fun
  | [d1, d2, d3] => { results := [.lit (.bool false)], args := [d1, d2, d3] }
  | _ => none }
def PatienceDiffsWrongFalsely : Prop := patienceDiffsRow.holds Try.pinned (OpenSpec.ofChange patienceDiffsWrong)

/-- 'sleuthlaw23.PatienceKeeps': WHATEVER THE INPUT: true; the input reads as it did. -/
def patienceKeepsSpec : ChangeSpec := { name := "patienceKeeps", fn := fun _ => fun
  | [d1, d2] => { results := [.lit (.bool true)], args := [d1, d2] }
  | _ => none }
def patienceKeepsRow : OpenClaim := { program := "ytbbmkgpgiacdeaa", sum := "338cc2763923778dd54797b54dafcb7a0d583391e738e308bce0263b4a49caf2", func := "sleuth/sleuthlaw23.PatienceKeeps", spec := "patienceKeeps", unfollowed := true, recurses := true, apart := false }
def PatienceKeepsSaid : Prop := patienceKeepsRow.holds Try.pinned (OpenSpec.ofChange patienceKeepsSpec)

/-- ITS FALSE NEIGHBOUR: 'it returns false'. Refute it at one input. -/
def patienceKeepsWrong : ChangeSpec := { name := "patienceKeeps", fn := fun _ => fun
  | [d1, d2] => { results := [.lit (.bool false)], args := [d1, d2] }
  | _ => none }
def PatienceKeepsWrongFalsely : Prop := patienceKeepsRow.holds Try.pinned (OpenSpec.ofChange patienceKeepsWrong)

/- THE SECOND FORM. 'bulk': how many values and letters a reading holds, each counted each time it is reached (what is shared counts as often as it is met; a slice's spare places count too). A statement '..UptoSaid' is the law's where the arguments, and the package variables that the reading takes, are together of bulk at most 1048576: NARROWER than '..Said'. Prove '..Said' where nothing that the law and all that it calls make is longer than what came in: it says more and counts as full. Else prove '..UptoSaid'. A law counts once. -/
mutual
def uptoBulk {H : Type} : DataW H → Nat
  | .lit (.string bytes) => bytes.length + 1
  | .lit _ => 1
  | .nil => 1
  | .ptr d => uptoBulk d + 1
  | .slice elems spare => uptoBulkAll elems + uptoBulkAll spare + 1
  | .agg parts => uptoBulkAll parts + 1
  | .iface _ d => uptoBulk d + 1
  | .map entries => uptoBulkEntries entries + 1
  | .held _ => 1
def uptoBulkAll {H : Type} : List (DataW H) → Nat
  | [] => 0
  | d :: r => uptoBulk d + uptoBulkAll r
def uptoBulkEntries {H : Type} : List (Lit × DataW H) → Nat
  | [] => 0
  | x :: r => uptoBulkEntry x + uptoBulkEntries r
def uptoBulkEntry {H : Type} : Lit × DataW H → Nat
  | (.string bytes, d) => bytes.length + uptoBulk d + 1
  | (_, d) => uptoBulk d + 1
 end
def uptoSmall : (H : Type) → List (DataW H) → Bool := fun _ ds => decide (uptoBulkAll ds ≤ 1048576)
def OpenSpec.upto (s : _root_.Go.ChangeSpec) : _root_.Go.OpenSpec := { _root_.Go.OpenSpec.ofChange s with cond := some uptoSmall }

/-- 'sleuthlaw24.HistoOften', WHERE WHAT IT READS IS OF BULK AT MOST 1048576: true; the input reads as it did. -/
def histoOftenUptoRow : OpenClaim := { program := "ytbbmkgpgiacdeaa", sum := "338cc2763923778dd54797b54dafcb7a0d583391e738e308bce0263b4a49caf2", func := "sleuth/sleuthlaw24.HistoOften", spec := "histoOften", unfollowed := true, recurses := true, apart := false, narrowed := true }
def HistoOftenUptoSaid : Prop := histoOftenUptoRow.holds Try.pinned (OpenSpec.upto histoOftenSpec)

/-- 'sleuthlaw24.HistoKeeps', WHERE WHAT IT READS IS OF BULK AT MOST 1048576: true; the input reads as it did. -/
def histoKeepsUptoRow : OpenClaim := { program := "ytbbmkgpgiacdeaa", sum := "338cc2763923778dd54797b54dafcb7a0d583391e738e308bce0263b4a49caf2", func := "sleuth/sleuthlaw24.HistoKeeps", spec := "histoKeeps", unfollowed := true, recurses := true, apart := false, narrowed := true }
def HistoKeepsUptoSaid : Prop := histoKeepsUptoRow.holds Try.pinned (OpenSpec.upto histoKeepsSpec)

/-- 'sleuthlaw24.HistoParts', WHERE WHAT IT READS IS OF BULK AT MOST 1048576: true; the input reads as it did. -/
def histoPartsUptoRow : OpenClaim := { program := "ytbbmkgpgiacdeaa", sum := "338cc2763923778dd54797b54dafcb7a0d583391e738e308bce0263b4a49caf2", func := "sleuth/sleuthlaw24.HistoParts", spec := "histoParts", unfollowed := true, recurses := true, apart := false, narrowed := true }
def HistoPartsUptoSaid : Prop := histoPartsUptoRow.holds Try.pinned (OpenSpec.upto histoPartsSpec)

/-- 'sleuthlaw24.HistoDiffs', WHERE WHAT IT READS IS OF BULK AT MOST 1048576: true; the input reads as it did. -/
def histoDiffsUptoRow : OpenClaim := { program := "ytbbmkgpgiacdeaa", sum := "338cc2763923778dd54797b54dafcb7a0d583391e738e308bce0263b4a49caf2", func := "sleuth/sleuthlaw24.HistoDiffs", spec := "histoDiffs", unfollowed := true, recurses := true, apart := false, narrowed := true }
def HistoDiffsUptoSaid : Prop := histoDiffsUptoRow.holds Try.pinned (OpenSpec.upto histoDiffsSpec)

/-- 'sleuthlaw23.PatienceOnce', WHERE WHAT IT READS IS OF BULK AT MOST 1048576: true; the input reads as it did. -/
def patienceOnceUptoRow : OpenClaim := { program := "ytbbmkgpgiacdeaa", sum := "338cc2763923778dd54797b54dafcb7a0d583391e738e308bce0263b4a49caf2", func := "sleuth/sleuthlaw23.PatienceOnce", spec := "patienceOnce", unfollowed := true, recurses := true, apart := false, narrowed := true }
def PatienceOnceUptoSaid : Prop := patienceOnceUptoRow.holds Try.pinned (OpenSpec.upto patienceOnceSpec)

/-- 'sleuthlaw23.PatienceChains', WHERE WHAT IT READS IS OF BULK AT MOST 1048576: true; the input reads as it did. -/
def patienceChainsUptoRow : OpenClaim := { program := "ytbbmkgpgiacdeaa", sum := "338cc2763923778dd54797b54dafcb7a0d583391e738e308bce0263b4a49caf2", func := "sleuth/sleuthlaw23.PatienceChains", spec := "patienceChains", unfollowed := true, recurses := true, apart := false, narrowed := true }
def PatienceChainsUptoSaid : Prop := patienceChainsUptoRow.holds Try.pinned (OpenSpec.upto patienceChainsSpec)

/-- 'sleuthlaw23.PatienceDiffs', WHERE WHAT IT READS IS OF BULK AT MOST 1048576: true; the input reads as it did. -/
def patienceDiffsUptoRow : OpenClaim := { program := "ytbbmkgpgiacdeaa", sum := "338cc2763923778dd54797b54dafcb7a0d583391e738e308bce0263b4a49caf2", func := "sleuth/sleuthlaw23.PatienceDiffs", spec := "patienceDiffs", unfollowed := true, recurses := true, apart := false, narrowed := true }
def PatienceDiffsUptoSaid : Prop := patienceDiffsUptoRow.holds Try.pinned (OpenSpec.upto patienceDiffsSpec)

/-- 'sleuthlaw23.PatienceKeeps', WHERE WHAT IT READS IS OF BULK AT MOST 1048576: true; the input reads as it did. -/
def patienceKeepsUptoRow : OpenClaim := { program := "ytbbmkgpgiacdeaa", sum := "338cc2763923778dd54797b54dafcb7a0d583391e738e308bce0263b4a49caf2", func := "sleuth/sleuthlaw23.PatienceKeeps", spec := "patienceKeeps", unfollowed := true, recurses := true, apart := false, narrowed := true }
def PatienceKeepsUptoSaid : Prop := patienceKeepsUptoRow.holds Try.pinned (OpenSpec.upto patienceKeepsSpec)

end Rows
end Go.Proofs.Ytbbmkgpgiacdeaa
