/-
  What is kept of two lists: plain laws.
-/
import Derived.Test.YtgapdndbelnknaaG
namespace Go.Proofs.Ytgapdndbelnknaa
open Go.RowKit Zk Zx
set_option linter.unusedVariables false
/-- The places that are kept. -/
def keepT (la lb : List Int) (i k : Nat) : List (Nat × Nat) :=
  if i < la.length ∧ k < lb.length ∧ la[i]? = lb[k]? then (i, k) :: keepT la lb (i + 1) (k + 1)
  else if i < la.length ∧ rR la lb (i + 1) k < rR la lb i k then keepT la lb (i + 1) k
  else if k < lb.length then keepT la lb i (k + 1) else []
termination_by (la.length - i) + (lb.length - k)
def pf (p : Nat × Nat) : List Value := [.int .i64 (p.1 : Int), .int .i64 (p.2 : Int)]
theorem pf_len (xs : List (Nat × Nat)) : (xs.flatMap pf).length = xs.length * 2 := by
  induction xs with
  | nil => rfl
  | cons x xs ih => rw [List.flatMap_cons, List.length_append, ih, List.length_cons]; simp only [pf, List.length_cons, List.length_nil]; omega
theorem pf_one (xs : List (Nat × Nat)) : ∀ u ∈ xs.flatMap pf, u.oneCell' = true := fun u hu => by
  obtain ⟨p, _, hp⟩ := List.mem_flatMap.1 hu
  simp only [pf, List.mem_cons, List.not_mem_nil, or_false] at hp
  rcases hp with rfl | rfl <;> rfl
theorem pf_get : ∀ (xs : List (Nat × Nat)) (i : Nat) (x : Nat × Nat), xs[i]? = some x → (xs.flatMap pf)[i * 2]? = some (.int .i64 (x.1 : Int)) ∧ (xs.flatMap pf)[i * 2 + 1]? = some (Value.int .i64 (x.2 : Int))
  | [], i, x, h => by cases h
  | y :: xs, 0, x, h => by
    obtain rfl : y = x := by simpa using h
    exact ⟨rfl, rfl⟩
  | y :: xs, i + 1, x, h => by
    have := pf_get xs i x (by simpa using h)
    rw [List.flatMap_cons, show (i + 1) * 2 = i * 2 + 1 + 1 by omega]
    exact this
section
variable {la lb : List Int} {i k : Nat}
theorem keep_hit (h : i < la.length ∧ k < lb.length ∧ la[i]? = lb[k]?) : keepT la lb i k = (i, k) :: keepT la lb (i + 1) (k + 1) := by rw [keepT, if_pos h]
theorem keep_a (h : ¬ (i < la.length ∧ k < lb.length ∧ la[i]? = lb[k]?)) (h2 : i < la.length ∧ rR la lb (i + 1) k < rR la lb i k) : keepT la lb i k = keepT la lb (i + 1) k := by rw [keepT, if_neg h, if_pos h2]
theorem keep_b (h : ¬ (i < la.length ∧ k < lb.length ∧ la[i]? = lb[k]?)) (h2 : ¬ (i < la.length ∧ rR la lb (i + 1) k < rR la lb i k)) (h3 : k < lb.length) : keepT la lb i k = keepT la lb i (k + 1) := by rw [keepT, if_neg h, if_neg h2, if_pos h3]
theorem keep_end (h1 : la.length ≤ i) (h2 : lb.length ≤ k) : keepT la lb i k = [] := by rw [keepT, if_neg (by omega), if_neg (by omega), if_neg (by omega)]
theorem no_hit (h : ¬ (i < la.length ∧ k < lb.length ∧ la[i]? = lb[k]?)) : ∀ x, la[i]? = some x → lb[k]? = some x → False := fun x h1 h2 => h ⟨(List.getElem?_eq_some_iff.1 h1).1, (List.getElem?_eq_some_iff.1 h2).1, by rw [h1, h2]⟩
theorem mis (h : ¬ (i < la.length ∧ k < lb.length ∧ la[i]? = lb[k]?)) (hi : i < la.length) (hk : k < lb.length) : rR la lb i k = min (rR la lb (i + 1) k) (rR la lb i (k + 1)) + 1 :=
  rR_mis (List.getElem?_eq_getElem hi) (List.getElem?_eq_getElem hk) fun e => h ⟨hi, hk, by rw [List.getElem?_eq_getElem hi, List.getElem?_eq_getElem hk, e]⟩
/-- No hit, and further in the second list. -/
theorem rR_b (h : ¬ (i < la.length ∧ k < lb.length ∧ la[i]? = lb[k]?)) (h2 : ¬ (i < la.length ∧ rR la lb (i + 1) k < rR la lb i k)) (hk : k < lb.length) : rR la lb i (k + 1) + 1 = rR la lb i k := by
  rcases Nat.lt_or_ge i la.length with hi | hi
  · have := mis h hi hk
    omega
  · rw [rR_endA hi, rR_endA hi]; omega
theorem rR_a (hi : i < la.length) (h2 : rR la lb (i + 1) k < rR la lb i k) : rR la lb (i + 1) k + 1 = rR la lb i k := by
  have := rR_stepA (la := la) (lb := lb) (k := k) hi
  omega
theorem k_lt (h2 : ¬ (i < la.length ∧ rR la lb (i + 1) k < rR la lb i k)) (hr : 0 < rR la lb i k) (hi : i ≤ la.length) (hk : k ≤ lb.length) : k < lb.length := by
  rcases Nat.lt_or_ge k lb.length with h | h
  · exact h
  · exfalso
    rw [rR_endB h, rR_endB h] at h2
    rw [rR_endB h] at hr
    omega
theorem rR_hit (h : i < la.length ∧ k < lb.length ∧ la[i]? = lb[k]?) : rR la lb i k = rR la lb (i + 1) (k + 1) :=
  rR_match (List.getElem?_eq_getElem h.1) (h.2.2.symm.trans (List.getElem?_eq_getElem h.1))
end
theorem keep_len (la lb : List Int) : ∀ (n i k : Nat), (la.length - i) + (lb.length - k) = n → i ≤ la.length → k ≤ lb.length → 2 * (keepT la lb i k).length + rR la lb i k = (la.length - i) + (lb.length - k) := by
  intro n
  induction n using Nat.strongRecOn with
  | ind n ih =>
    intro i k hn hi hk
    by_cases h : i < la.length ∧ k < lb.length ∧ la[i]? = lb[k]?
    · have := ih _ (by omega) (i + 1) (k + 1) rfl (by omega) (by omega)
      rw [keep_hit h, List.length_cons, rR_hit h]
      omega
    · by_cases h2 : i < la.length ∧ rR la lb (i + 1) k < rR la lb i k
      · have := ih _ (by omega) (i + 1) k rfl (by omega) (by omega)
        have h3 := rR_a h2.1 h2.2
        rw [keep_a h h2]
        omega
      · rcases Nat.lt_or_ge k lb.length with h3 | h3
        · have := ih _ (by omega) i (k + 1) rfl (by omega) (by omega)
          have h4 := rR_b h h2 h3
          rw [keep_b h h2 h3]
          omega
        · rcases Nat.lt_or_ge i la.length with h4 | h4
          · rw [rR_endB h3, rR_endB h3] at h2
            omega
          · rw [keep_end h4 h3, rR_endA h4]
            simp only [List.length_nil]
            omega
/-- What is kept rises, and is one in both. -/
theorem keep_ok (la lb : List Int) : ∀ (n i k : Nat), (la.length - i) + (lb.length - k) = n → (∀ p ∈ keepT la lb i k, i ≤ p.1 ∧ p.1 < la.length ∧ k ≤ p.2 ∧ p.2 < lb.length ∧ la[p.1]? = lb[p.2]?) ∧ (keepT la lb i k).Pairwise fun p q => p.1 < q.1 ∧ p.2 < q.2 := by
  intro n
  induction n using Nat.strongRecOn with
  | ind n ih =>
    intro i k hn
    by_cases h : i < la.length ∧ k < lb.length ∧ la[i]? = lb[k]?
    · obtain ⟨h1, h2⟩ := ih _ (by omega) (i + 1) (k + 1) rfl
      rw [keep_hit h]
      refine ⟨fun p hp => ?_, List.pairwise_cons.2 ⟨fun p hp => ?_, h2⟩⟩
      · rcases List.mem_cons.1 hp with rfl | hp
        · exact ⟨Nat.le_refl _, h.1, Nat.le_refl _, h.2.1, h.2.2⟩
        · obtain ⟨a1, a2, a3, a4, a5⟩ := h1 p hp
          exact ⟨by omega, a2, by omega, a4, a5⟩
      · obtain ⟨a1, a2, a3, a4, a5⟩ := h1 p hp
        exact ⟨by omega, by omega⟩
    · by_cases h2 : i < la.length ∧ rR la lb (i + 1) k < rR la lb i k
      · obtain ⟨h3, h4⟩ := ih _ (by omega) (i + 1) k rfl
        rw [keep_a h h2]
        exact ⟨fun p hp => by obtain ⟨a1, a2, a3, a4, a5⟩ := h3 p hp; exact ⟨by omega, a2, by omega, a4, a5⟩, h4⟩
      · rcases Nat.lt_or_ge k lb.length with h5 | h5
        · obtain ⟨h3, h4⟩ := ih _ (by omega) i (k + 1) rfl
          rw [keep_b h h2 h5]
          exact ⟨fun p hp => by obtain ⟨a1, a2, a3, a4, a5⟩ := h3 p hp; exact ⟨by omega, a2, by omega, a4, a5⟩, h4⟩
        · have e : keepT la lb i k = [] := by rw [keepT, if_neg h, if_neg h2, if_neg (by omega)]
          rw [e]
          exact ⟨(fun p hp => by cases hp), List.Pairwise.nil⟩
/-- As many as the lists have in common at most, from two places on. -/
def lC (la lb : List Int) (i k : Nat) : Nat := ((la.length - i) + (lb.length - k) - rR la lb i k) / 2
theorem lC_endA {la lb : List Int} {i k : Nat} (h : la.length ≤ i) : lC la lb i k = 0 := by
  unfold lC
  rw [rR_endA h]
  omega
theorem lC_endB {la lb : List Int} {i k : Nat} (h : lb.length ≤ k) : lC la lb i k = 0 := by
  unfold lC
  rw [rR_endB h]
  omega
theorem lC_hit {la lb : List Int} {i k : Nat} (h : i < la.length ∧ k < lb.length ∧ la[i]? = lb[k]?) : lC la lb i k = lC la lb (i + 1) (k + 1) + 1 ∧ lC la lb (i + 1) k ≤ lC la lb i k ∧ lC la lb i (k + 1) ≤ lC la lb i k := by
  have h1 := rR_hit h
  have h2 := rR_stepA (la := la) (lb := lb) (k := k) h.1
  have h3 := rR_stepB (la := la) (lb := lb) (i := i) h.2.1
  have h4 := rR_facts la lb (i + 1) (k + 1)
  have h5 := rR_facts la lb i k
  unfold lC
  omega
theorem lC_mis {la lb : List Int} {i k : Nat} (h : ¬ (i < la.length ∧ k < lb.length ∧ la[i]? = lb[k]?)) (hi : i < la.length) (hk : k < lb.length) : lC la lb i k = max (lC la lb (i + 1) k) (lC la lb i (k + 1)) := by
  have h1 := mis h hi hk
  have h4 := rR_facts la lb (i + 1) k
  have h5 := rR_facts la lb i (k + 1)
  have h6 := rR_facts la lb i k
  unfold lC
  rcases Nat.le_total (rR la lb (i + 1) k) (rR la lb i (k + 1)) with h7 | h7
  · rw [Nat.min_eq_left h7] at h1
    rw [Nat.max_eq_left (by omega)]
    omega
  · rw [Nat.min_eq_right h7] at h1
    rw [Nat.max_eq_right (by omega)]
    omega
end Go.Proofs.Ytgapdndbelnknaa
