/-
  The order of bytes' lists. General; nothing here names a program.
-/
import Derived.Test.YtmgimcdkeelnpaaZi
import Derived.Test.YtmgimcdkeelnpaaZ1
import Derived.Lib.Bytealg
namespace Go.Proofs.Ytmgimcdkeelnpaa.Zx
open Go.RowKit Zk
set_option linter.unusedVariables false
/-- a before b. -/
def bl (a b : List UInt8) : Bool := Op.bytesLess a b
theorem sLt_eq (a b : List UInt8) : sLt ⟨a.toArray⟩ ⟨b.toArray⟩ = bl a b := by
  unfold sLt
  rw [toList_eq, toList_eq]
  rfl
theorem bl_nil (a : List UInt8) : bl a [] = false := by cases a <;> rfl
theorem bl_cons (x y : UInt8) (a b : List UInt8) : bl (x :: a) (y :: b) = (decide (x < y) || (x == y && bl a b)) := rfl
theorem bl_irr : ∀ a, bl a a = false
  | [] => rfl
  | x :: a => by rw [bl_cons, bl_irr a]; simp
theorem bl_trans : ∀ a b c, bl a b = true → bl b c = true → bl a c = true
  | _, [], _, h, _ => by rw [bl_nil] at h; cases h
  | _, _ :: _, [], _, h => by rw [bl_nil] at h; cases h
  | [], _ :: _, _ :: _, _, _ => rfl
  | x :: a, y :: b, z :: c, h1, h2 => by
    rw [bl_cons] at h1 h2 ⊢
    simp only [Bool.or_eq_true, decide_eq_true_eq, Bool.and_eq_true, beq_iff_eq] at h1 h2 ⊢
    rcases h1 with h1 | ⟨h1, h3⟩
    · rcases h2 with h2 | ⟨h2, h4⟩
      · exact .inl (UInt8.lt_trans h1 h2)
      · subst h2; exact .inl h1
    · subst h1
      rcases h2 with h2 | ⟨h2, h4⟩
      · exact .inl h2
      · exact .inr ⟨h2, bl_trans a b c h3 h4⟩
theorem bl_total : ∀ a b, bl a b = false → a ≠ b → bl b a = true
  | [], [], _, h => absurd rfl h
  | [], _ :: _, h, _ => by cases h
  | _ :: _, [], _, _ => rfl
  | x :: a, y :: b, h, hn => by
    rw [bl_cons] at h ⊢
    simp only [Bool.or_eq_false_iff, decide_eq_false_iff_not, Bool.and_eq_false_iff, beq_eq_false_iff_ne] at h
    simp only [Bool.or_eq_true, decide_eq_true_eq, Bool.and_eq_true, beq_iff_eq]
    by_cases hxy : x = y
    · subst hxy
      rcases h.2 with h2 | h2
      · exact absurd rfl h2
      · exact .inr ⟨rfl, bl_total a b h2 (fun e => hn (by rw [e]))⟩
    · left
      rcases UInt8.lt_or_lt_of_ne hxy with h3 | h3
      · exact absurd h3 h.1
      · exact h3
theorem bl_ntrans (x y z : List UInt8) (h1 : bl x y = false) (h2 : bl y z = false) : bl x z = false := by
  cases h3 : bl x z
  · rfl
  · exfalso
    by_cases e1 : x = y
    · subst e1; rw [h3] at h2; cases h2
    · have h4 := bl_total x y h1 e1
      have h5 := bl_trans _ _ _ h4 h3
      rw [h5] at h2
      cases h2
theorem cmp_bl : ∀ a b : List UInt8, decide (Lib.compareBytes a b < 0) = bl a b
  | [], [] => rfl
  | [], _ :: _ => rfl
  | _ :: _, [] => rfl
  | x :: a, y :: b => by
    rw [bl_cons, Lib.compareBytes]
    by_cases h1 : x < y
    · simp [h1]
    · by_cases h2 : y < x
      · have h3 : x ≠ y := fun e => by subst e; exact h1 h2
        simp [h1, h2, h3]
      · have h3 : x = y := by
          rcases Classical.em (x = y) with h | h
          · exact h
          · rcases UInt8.lt_or_lt_of_ne h with h4 | h4
            · exact (h1 h4).elim
            · exact (h2 h4).elim
        subst h3
        have ih := cmp_bl a b
        rw [if_neg h1, if_neg h1, ih]
        simp [h1]
theorem ordBl {α : Type} (key : α → List UInt8) : Ord3 fun x y => bl (key x) (key y) where
  asym x y h := by
    cases h2 : bl (key y) (key x) with
    | false => rfl
    | true =>
      have := bl_trans _ _ _ h h2
      rw [bl_irr] at this
      cases this
  nt x y z h1 h2 := bl_ntrans _ _ _ h1 h2
end Go.Proofs.Ytmgimcdkeelnpaa.Zx
