/-
  General laws, third part: which operation stands next? (So that a law is tried there alone.)
-/
import Derived.Test.YtmgimcdkeelnpaaZl
namespace Go.Proofs.Ytmgimcdkeelnpaa.Zk
open Go.RowKit
set_option linter.unusedVariables false

/-- The next operation writes slot n. -/
theorem at_dst (n : Nat) {P : Program} {ops : Array Oper} {Q : Exit → Act → World → Prop} {op : Op} {ty : TypeId} {pos : String} {after : Array Edge} {guard : Option (Nat × Bool)} {rest : List Oper} {a : Act} {w : World}
    (h : wpList P ops Q (⟨some n, op, ty, pos, after, guard⟩ :: rest) a w) : wpList P ops Q (⟨some n, op, ty, pos, after, guard⟩ :: rest) a w := h
/-- The next operation stores slot n. -/
theorem at_store (n : Nat) {P : Program} {ops : Array Oper} {Q : Exit → Act → World → Prop} {t : TypeId} {x : Operand} {ty : TypeId} {pos : String} {after : Array Edge} {guard : Option (Nat × Bool)} {rest : List Oper} {a : Act} {w : World}
    (h : wpList P ops Q (⟨none, .store t x (.tmp n), ty, pos, after, guard⟩ :: rest) a w) : wpList P ops Q (⟨none, .store t x (.tmp n), ty, pos, after, guard⟩ :: rest) a w := h
theorem at_qdst (n : Nat) {P : Program} {ops : Array Oper} {C : World → Prop} {Q : Act → Prop} {op : Op} {ty : TypeId} {pos : String} {after : Array Edge} {guard : Option (Nat × Bool)} {rest : List Oper} {a : Act}
    (h : wpQuiet P ops C Q (⟨some n, op, ty, pos, after, guard⟩ :: rest) a) : wpQuiet P ops C Q (⟨some n, op, ty, pos, after, guard⟩ :: rest) a := h
theorem bN {w0 w w' : World} (h : Below w0.heap.size w0 w) (hg : w.grownBy w' none) : Below w0.heap.size w0 w' := h.grown hg h.size (by simp)
theorem bS {w0 w w' : World} {g : Nat} (h : Below w0.heap.size w0 w) (hg : w.grownBy w' (some g)) (hb : w0.heap.size ≤ g) : Below w0.heap.size w0 w' := h.grown hg h.size (by simp; omega)
theorem bT {w0 w w' : World} (h : Below w0.heap.size w0 w) (hb : Below w.heap.size w w') : Below w0.heap.size w0 w' := h.trans (hb.mono h.size)
theorem bO {w0 w w' : World} {e : TypeId} {size n : Nat} {v : Value} {xs : List Value} (h : Below w0.heap.size w0 w) (ho : w.ownsRow w0.heap.size e size v n xs) (hg : w.grownBy w' v.ownBlock) : Below w0.heap.size w0 w' :=
  below_own h ho hg h.size (Nat.le_refl _)
end Go.Proofs.Ytmgimcdkeelnpaa.Zk
