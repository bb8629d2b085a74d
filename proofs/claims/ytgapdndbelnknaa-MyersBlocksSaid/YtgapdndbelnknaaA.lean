/-
  How far two lists are from one another: plain laws.
-/
import Derived.Test.YtgapdndbelnknaaZq
namespace Go.Proofs.Ytgapdndbelnknaa
open Go.RowKit Zk Zx
set_option linter.unusedVariables false
/-- How many are taken out and put in, at least. -/
def ed : List Int → List Int → Nat
  | [], y => y.length
  | x, [] => x.length
  | a :: x, b :: y => if a = b then ed x y else min (ed x (b :: y)) (ed (a :: x) y) + 1
termination_by x y => x.length + y.length
theorem ed_nil (y : List Int) : ed [] y = y.length := by rw [ed]
theorem ed_nil_r (x : List Int) : ed x [] = x.length := by
  cases x with
  | nil => rw [ed]
  | cons a x => rw [ed]; simp
theorem ed_eq (a : Int) (x y : List Int) : ed (a :: x) (a :: y) = ed x y := by rw [ed, if_pos rfl]
theorem ed_ne {a b : Int} (h : a ≠ b) (x y : List Int) : ed (a :: x) (b :: y) = min (ed x (b :: y)) (ed (a :: x) y) + 1 := by rw [ed, if_neg h]
theorem ed_step : ∀ (n : Nat) (x y : List Int), x.length + y.length = n →
    (∀ a, ed (a :: x) y ≤ ed x y + 1 ∧ ed x y ≤ ed (a :: x) y + 1) ∧ ∀ b, ed x (b :: y) ≤ ed x y + 1 ∧ ed x y ≤ ed x (b :: y) + 1 := by
  intro n
  induction n using Nat.strongRecOn with
  | ind n ih =>
    intro x y hn
    constructor
    · intro a
      cases y with
      | nil => rw [ed_nil_r, ed_nil_r, List.length_cons]; omega
      | cons b y =>
        have h := ih _ (by rw [← hn, List.length_cons]; omega) x y rfl
        by_cases e : a = b
        · subst e
          rw [ed_eq]
          have := h.2 a
          omega
        · rw [ed_ne e]
          have h1 := h.1 a
          have h2 := h.2 b
          omega
    · intro b
      cases x with
      | nil => rw [ed_nil, ed_nil, List.length_cons]; omega
      | cons a x =>
        have h := ih _ (by rw [← hn, List.length_cons]; omega) x y rfl
        by_cases e : a = b
        · subst e
          rw [ed_eq]
          have := h.1 a
          omega
        · rw [ed_ne e]
          have h1 := h.1 a
          have h2 := h.2 b
          omega
theorem ed_diag (a b : Int) (x y : List Int) : ed x y ≤ ed (a :: x) (b :: y) := by
  by_cases e : a = b
  · subst e; rw [ed_eq]; exact Nat.le_refl _
  · rw [ed_ne e]
    have h := ed_step _ x y rfl
    have h1 := h.1 a
    have h2 := h.2 b
    omega
theorem ed_facts : ∀ (n : Nat) (x y : List Int), x.length + y.length = n → (ed x y + x.length + y.length) % 2 = 0 ∧ x.length ≤ ed x y + y.length ∧ y.length ≤ ed x y + x.length ∧ ed x y ≤ x.length + y.length := by
  intro n
  induction n using Nat.strongRecOn with
  | ind n ih =>
    intro x y hn
    cases x with
    | nil => rw [ed_nil]; simp only [List.length_nil]; omega
    | cons a x =>
      cases y with
      | nil => rw [ed_nil_r]; simp only [List.length_nil]; omega
      | cons b y =>
        simp only [List.length_cons] at hn ⊢
        have h0 := ih _ (by omega) x y rfl
        have h1 := ih _ (by rw [← hn, List.length_cons]; omega) x (b :: y) rfl
        have h2 := ih _ (by rw [← hn, List.length_cons]; omega) (a :: x) y rfl
        simp only [List.length_cons] at h1 h2
        by_cases e : a = b
        · subst e; rw [ed_eq]; omega
        · rw [ed_ne e]
          rcases Nat.le_total (ed x (b :: y)) (ed (a :: x) y) with h3 | h3
          · rw [Nat.min_eq_left h3]; omega
          · rw [Nat.min_eq_right h3]; omega
/-- How far a place is from the end. -/
def rR (la lb : List Int) (i k : Nat) : Nat := ed (la.drop i) (lb.drop k)
section
variable {la lb : List Int} {i k : Nat}
theorem rR_endA (h : la.length ≤ i) : rR la lb i k = lb.length - k := by
  rw [rR, List.drop_eq_nil_of_le h, ed_nil, List.length_drop]
theorem rR_endB (h : lb.length ≤ k) : rR la lb i k = la.length - i := by
  rw [rR, List.drop_eq_nil_of_le h, ed_nil_r, List.length_drop]
theorem drop_at {l : List Int} {i : Nat} {x : Int} (h : l[i]? = some x) : l.drop i = x :: l.drop (i + 1) := by
  obtain ⟨h1, h2⟩ := List.getElem?_eq_some_iff.1 h
  rw [← h2]
  exact List.drop_eq_getElem_cons h1
theorem rR_match {x : Int} (ha : la[i]? = some x) (hb : lb[k]? = some x) : rR la lb i k = rR la lb (i + 1) (k + 1) := by
  rw [rR, drop_at ha, drop_at hb, ed_eq]
  rfl
theorem rR_mis {x y : Int} (ha : la[i]? = some x) (hb : lb[k]? = some y) (h : x ≠ y) : rR la lb i k = min (rR la lb (i + 1) k) (rR la lb i (k + 1)) + 1 := by
  rw [rR, drop_at ha, drop_at hb, ed_ne h, ← drop_at ha, ← drop_at hb]
  rfl
theorem rR_stepA (h : i < la.length) : rR la lb i k ≤ rR la lb (i + 1) k + 1 ∧ rR la lb (i + 1) k ≤ rR la lb i k + 1 := by
  have := (ed_step _ (la.drop (i + 1)) (lb.drop k) rfl).1 la[i]
  rw [← drop_at (List.getElem?_eq_getElem h)] at this
  exact this
theorem rR_stepB (h : k < lb.length) : rR la lb i k ≤ rR la lb i (k + 1) + 1 ∧ rR la lb i (k + 1) ≤ rR la lb i k + 1 := by
  have := (ed_step _ (la.drop i) (lb.drop (k + 1)) rfl).2 lb[k]
  rw [← drop_at (List.getElem?_eq_getElem h)] at this
  exact this
theorem rR_diag (ha : i < la.length) (hb : k < lb.length) : rR la lb (i + 1) (k + 1) ≤ rR la lb i k := by
  have := ed_diag la[i] lb[k] (la.drop (i + 1)) (lb.drop (k + 1))
  rw [← drop_at (List.getElem?_eq_getElem ha), ← drop_at (List.getElem?_eq_getElem hb)] at this
  exact this
theorem rR_facts (la lb : List Int) (i k : Nat) : (rR la lb i k + (la.length - i) + (lb.length - k)) % 2 = 0 ∧ la.length - i ≤ rR la lb i k + (lb.length - k) ∧ lb.length - k ≤ rR la lb i k + (la.length - i) ∧ rR la lb i k ≤ (la.length - i) + (lb.length - k) := by
  have := ed_facts _ (la.drop i) (lb.drop k) rfl
  rw [List.length_drop, List.length_drop] at this
  exact this
theorem rR_zero (hi : i ≤ la.length) (hk : k ≤ lb.length) (h : rR la lb i k = 0) (hm : ∀ x, la[i]? = some x → lb[k]? = some x → False) : i = la.length ∧ k = lb.length := by
  rcases Nat.lt_or_ge i la.length with h1 | h1
  · rcases Nat.lt_or_ge k lb.length with h2 | h2
    · by_cases e : la[i] = lb[k]
      · exact (hm la[i] (List.getElem?_eq_getElem h1) (by rw [e]; exact List.getElem?_eq_getElem h2)).elim
      · rw [rR_mis (List.getElem?_eq_getElem h1) (List.getElem?_eq_getElem h2) e] at h
        omega
    · rw [rR_endB h2] at h; omega
  · rw [rR_endA h1] at h; omega
end
end Go.Proofs.Ytgapdndbelnknaa
