/-
  No cell of these rows narrows 'for every input' (looked for: loops, veiled, ifaces, maps, wideKeys, modest, calm, conditions, laid).
  DERIVED. THE GIVEN ROWS OF THIS SEAT. 4 by the template 'for every input the law returns true; each argument reads behind the call as it read before'; 0 by the template 'total and deterministic' (their statements: YtaknmlajhedfhaaTotals.lean).
  GIVEN WITH THE SEED: the statements are not yours to turn. If you find one false, say at which input.
  Laid BY PROGRAM, IN A SANDBOX (cutbox-rows.mjs): the forced cells as the released guide's own fill.sh prints them over the translation 558fd1a3ec8ba454… (all of the seat's roots in one cut). By AI agents, Wed Nov 11 2026. No macro, syntax, notation, axiom, sorry.
-/
import Derived.Test.YtaknmlajhedfhaaChecked
import GoSem.Claim
import GoSem.ClaimJoined
import GoSem.ClaimMapViews
import Derived.JoinedTies
import Derived.KernelRfl
namespace Go.Proofs.Ytaknmlajhedfhaa
/- THE CELL 'sum', in the pinned program and in every row, IS THE sha256 OF THE DUMP (.gsa) THAT YtaknmlajhedfhaaProg.lean LOADS. Nothing in Lean hashes anything: it is a label: what it is worth is what the hold of that sum in a sandbox is worth. -/
noncomputable def Try.pinned : Pinned := { name := "ytaknmlajhedfhaa", sum := "558fd1a3ec8ba454469569054deeb6c3d6932f6027b6f84011922b7858b4ca55", checked := Try.checked }
namespace Rows
def none {H : Type} : Left H := { results := [], args := [] }

/-- 'sleuthlaw25.AlikeScores': WHATEVER THE INPUT: true; the input reads as it did. -/
def alikeScoresSpec : ChangeSpec := { name := "alikeScores", fn := fun _ => fun
  | [d1, d2, d3] => { results := [.lit (.bool true)], args := [d1, d2, d3] }
  | _ => none }
def alikeScoresRow : OpenClaim := { program := "ytaknmlajhedfhaa", sum := "558fd1a3ec8ba454469569054deeb6c3d6932f6027b6f84011922b7858b4ca55", func := "sleuth/sleuthlaw25.AlikeScores", spec := "alikeScores", recurses := true, apart := false }
def AlikeScoresSaid : Prop := alikeScoresRow.holds Try.pinned (OpenSpec.ofChange alikeScoresSpec)

/-- ITS FALSE NEIGHBOUR: 'it returns false'. Refute it at one input. -/
def alikeScoresWrong : ChangeSpec := { name := "alikeScores", fn := fun _ => fun
  | [d1, d2, d3] => { results := [.lit (.bool false)], args := [d1, d2, d3] }
  | _ => none }
def AlikeScoresWrongFalsely : Prop := alikeScoresRow.holds Try.pinned (OpenSpec.ofChange alikeScoresWrong)

/-- 'sleuthlaw25.AlikeEven': WHATEVER THE INPUT: true; the input reads as it did. -/
def alikeEvenSpec : ChangeSpec := { name := "alikeEven", fn := fun _ => fun
  | [d1, d2, d3] => { results := [.lit (.bool true)], args := [d1, d2, d3] }
  | _ => none }
def alikeEvenRow : OpenClaim := { program := "ytaknmlajhedfhaa", sum := "558fd1a3ec8ba454469569054deeb6c3d6932f6027b6f84011922b7858b4ca55", func := "sleuth/sleuthlaw25.AlikeEven", spec := "alikeEven", apart := false }
def AlikeEvenSaid : Prop := alikeEvenRow.holds Try.pinned (OpenSpec.ofChange alikeEvenSpec)

/-- ITS FALSE NEIGHBOUR: 'it returns false'. Refute it at one input. -/
def alikeEvenWrong : ChangeSpec := { name := "alikeEven", fn := fun _ => fun
  | [d1, d2, d3] => { results := [.lit (.bool false)], args := [d1, d2, d3] }
  | _ => none }
def AlikeEvenWrongFalsely : Prop := alikeEvenRow.holds Try.pinned (OpenSpec.ofChange alikeEvenWrong)

/-- 'sleuthlaw25.AlikePieces': WHATEVER THE INPUT: true; the input reads as it did. -/
def alikePiecesSpec : ChangeSpec := { name := "alikePieces", fn := fun _ => fun
  | [d] => { results := [.lit (.bool true)], args := [d] }
  | _ => none }
def alikePiecesRow : OpenClaim := { program := "ytaknmlajhedfhaa", sum := "558fd1a3ec8ba454469569054deeb6c3d6932f6027b6f84011922b7858b4ca55", func := "sleuth/sleuthlaw25.AlikePieces", spec := "alikePieces", inPlace := ["internal/bytealg.abigen_runtime_cmpstring"], unfollowed := true, recurses := true, apart := false }
def AlikePiecesSaid : Prop := alikePiecesRow.holds Try.pinned (OpenSpec.ofChange alikePiecesSpec)

/-- ITS FALSE NEIGHBOUR: 'it returns false'. Refute it at one input. -/
def alikePiecesWrong : ChangeSpec := { name := "alikePieces", fn := fun _ => fun
  | [d] => { results := [.lit (.bool false)], args := [d] }
  | _ => none }
def AlikePiecesWrongFalsely : Prop := alikePiecesRow.holds Try.pinned (OpenSpec.ofChange alikePiecesWrong)

/-- 'sleuthlaw25.AlikeTables': WHATEVER THE INPUT: true; the input reads as it did. -/
def alikeTablesSpec : ChangeSpec := { name := "alikeTables", fn := fun _ => fun
  | [d1, d2, d3] => { results := [.lit (.bool true)], args := [d1, d2, d3] }
  | _ => none }
def alikeTablesRow : OpenClaim := { program := "ytaknmlajhedfhaa", sum := "558fd1a3ec8ba454469569054deeb6c3d6932f6027b6f84011922b7858b4ca55", func := "sleuth/sleuthlaw25.AlikeTables", spec := "alikeTables", unfollowed := true, recurses := true, apart := false }
def AlikeTablesSaid : Prop := alikeTablesRow.holds Try.pinned (OpenSpec.ofChange alikeTablesSpec)

/-- ITS FALSE NEIGHBOUR: 'it returns false'. Refute it at one input. -/
def alikeTablesWrong : ChangeSpec := { name := "alikeTables", fn := fun _ => fun
  | [d1, d2, d3] => { results := [.lit (.bool false)], args := [d1, d2, d3] }
  | _ => none }
def AlikeTablesWrongFalsely : Prop := alikeTablesRow.holds Try.pinned (OpenSpec.ofChange alikeTablesWrong)

/- THE SECOND FORM. 'bulk': how many values and letters a reading holds, each counted each time it is reached (what is shared counts as often as it is met; a slice's spare places count too). A statement '..UptoSaid' is the law's where the arguments, and the package variables that the reading takes, are together of bulk at most 1048576: NARROWER than '..Said'. Prove '..Said' where nothing that the law and all that it calls make is longer than what came in: it says more and counts as full. Else prove '..UptoSaid'. A law counts once. -/
mutual
def uptoBulk {H : Type} : DataW H → Nat
  | .lit (.string bytes) => bytes.length + 1
  | .lit _ => 1
  | .nil => 1
  | .ptr d => uptoBulk d + 1
  | .slice elems spare => uptoBulkAll elems + uptoBulkAll spare + 1
  | .agg parts => uptoBulkAll parts + 1
  | .iface _ d => uptoBulk d + 1
  | .map entries => uptoBulkEntries entries + 1
  | .held _ => 1
def uptoBulkAll {H : Type} : List (DataW H) → Nat
  | [] => 0
  | d :: r => uptoBulk d + uptoBulkAll r
def uptoBulkEntries {H : Type} : List (Lit × DataW H) → Nat
  | [] => 0
  | x :: r => uptoBulkEntry x + uptoBulkEntries r
def uptoBulkEntry {H : Type} : Lit × DataW H → Nat
  | (.string bytes, d) => bytes.length + uptoBulk d + 1
  | (_, d) => uptoBulk d + 1
 end
def uptoSmall : (H : Type) → List (DataW H) → Bool := fun _ ds => decide (uptoBulkAll ds ≤ 1048576)
def OpenSpec.upto (s : _root_.Go.ChangeSpec) : _root_.Go.OpenSpec := { _root_.Go.OpenSpec.ofChange s with cond := some uptoSmall }

/-- 'sleuthlaw25.AlikeScores', WHERE WHAT IT READS IS OF BULK AT MOST 1048576: true; the input reads as it did. -/
def alikeScoresUptoRow : OpenClaim := { program := "ytaknmlajhedfhaa", sum := "558fd1a3ec8ba454469569054deeb6c3d6932f6027b6f84011922b7858b4ca55", func := "sleuth/sleuthlaw25.AlikeScores", spec := "alikeScores", recurses := true, apart := false, narrowed := true }
def AlikeScoresUptoSaid : Prop := alikeScoresUptoRow.holds Try.pinned (OpenSpec.upto alikeScoresSpec)

/-- 'sleuthlaw25.AlikeEven', WHERE WHAT IT READS IS OF BULK AT MOST 1048576: true; the input reads as it did. -/
def alikeEvenUptoRow : OpenClaim := { program := "ytaknmlajhedfhaa", sum := "558fd1a3ec8ba454469569054deeb6c3d6932f6027b6f84011922b7858b4ca55", func := "sleuth/sleuthlaw25.AlikeEven", spec := "alikeEven", apart := false, narrowed := true }
def AlikeEvenUptoSaid : Prop := alikeEvenUptoRow.holds Try.pinned (OpenSpec.upto alikeEvenSpec)

/-- 'sleuthlaw25.AlikePieces', WHERE WHAT IT READS IS OF BULK AT MOST 1048576: true; the input reads as it did. -/
def alikePiecesUptoRow : OpenClaim := { program := "ytaknmlajhedfhaa", sum := "558fd1a3ec8ba454469569054deeb6c3d6932f6027b6f84011922b7858b4ca55", func := "sleuth/sleuthlaw25.AlikePieces", spec := "alikePieces", inPlace := ["internal/bytealg.abigen_runtime_cmpstring"], unfollowed := true, recurses := true, apart := false, narrowed := true }
def AlikePiecesUptoSaid : Prop := alikePiecesUptoRow.holds Try.pinned (OpenSpec.upto alikePiecesSpec)

/-- 'sleuthlaw25.AlikeTables', WHERE WHAT IT READS IS OF BULK AT MOST 1048576: true; the input reads as it did. -/
def alikeTablesUptoRow : OpenClaim := { program := "ytaknmlajhedfhaa", sum := "558fd1a3ec8ba454469569054deeb6c3d6932f6027b6f84011922b7858b4ca55", func := "sleuth/sleuthlaw25.AlikeTables", spec := "alikeTables", unfollowed := true, recurses := true, apart := false, narrowed := true }
def AlikeTablesUptoSaid : Prop := alikeTablesUptoRow.holds Try.pinned (OpenSpec.upto alikeTablesSpec)

end Rows
end Go.Proofs.Ytaknmlajhedfhaa
