/-
  Numbers by sevens: what is read is what is written, and the other way round.
-/
import Derived.Test.YtcbnhmcfdpcbhaaI
namespace Go.Proofs.Ytcbnhmcfdpcbhaa
open Go.RowKit Zk Zx
set_option linter.unusedVariables false
theorem ofNat_toNat8 {c : UInt8} {x : Nat} (h : x = c.toNat) : UInt8.ofNat x = c := by
  subst h
  exact UInt8.ofNat_toNat
theorem triple {x : Nat × Nat × Nat} (h : x.2.2 = 0) : x = (x.1, x.2.1, 0) := Prod.ext rfl (Prod.ext rfl h)
theorem numF_vr : ∀ (r : List UInt8) (k a v j : Nat), numF r k a = (v, j, 0) → ∃ t, v = a + t * 128 ^ k ∧ k < j ∧ j ≤ k + r.length ∧ vr t = r.take (j - k) ∧ (0 < k → 0 < t)
  | [], k, a, v, j, h => by simp [numF] at h
  | c :: r, k, a, v, j, h => by
    have hc := c.toNat_lt
    rw [numF] at h
    split at h
    · simp at h
    · rename_i hF
      split at h
      · rename_i hl
        simp only [Prod.mk.injEq, and_true] at h
        refine ⟨c.toNat, by rw [← h.1, Nat.mod_eq_of_lt hl], by omega, by simp; omega, ?_, fun hk => by omega⟩
        rw [vr_low _ hl, show j - k = 1 by omega, List.take_succ_cons, List.take_zero, UInt8.ofNat_toNat]
      · rename_i hl
        obtain ⟨t, h1, h2, h3, h4, h5⟩ := numF_vr r (k + 1) _ v j h
        have h6 := h5 (by omega)
        refine ⟨c.toNat % 128 + t * 128, ?_, by omega, by simp only [List.length_cons]; omega, ?_, fun _ => by omega⟩
        · rw [h1, Nat.pow_succ, Nat.add_mul, Nat.add_assoc, Nat.mul_assoc t, Nat.mul_comm 128]
        · rw [vr_big _ (by omega), show j - k = (j - (k + 1)) + 1 by omega, List.take_succ_cons, show (c.toNat % 128 + t * 128) / 128 = t by omega, h4, ofNat_toNat8 (c := c) (by omega)]
theorem numF_max : ∀ (r : List UInt8) (k a : Nat), k ≤ 9 → a < 128 ^ k → (numF r k a).1 ≤ 18446744073709551615
  | [], k, a, hk, ha => by simp [numF]
  | c :: r, k, a, hk, ha => by
    have hc := c.toNat_lt
    rw [numF]
    split
    · simp
    · rename_i hF
      split
      · exact (num_lt hk ha (x := c.toNat) (by omega) (fun h => by omega)).2
      · exact numF_max r (k + 1) _ (by omega) (num_next ha)
theorem numF_back (rest : List UInt8) : ∀ (n t k a : Nat), t ≤ n → k ≤ 9 → (k = 9 → t ≤ 1) → (0 < k → 0 < t) → (t * 128 ^ k ≤ 18446744073709551615) → numF (vr t ++ rest) k a = (a + t * 128 ^ k, k + (vr t).length, 0)
  | n, t, k, a, hn, hk, h9, h0, hm => by
    by_cases hl : t < 128
    · rw [vr_low _ hl, List.singleton_append, numF, show (UInt8.ofNat t).toNat = t by rw [UInt8.toNat_ofNat']; omega, if_neg (by omega), if_pos hl, Nat.mod_eq_of_lt hl]
      rfl
    · have hk9 : k ≠ 9 := fun h => by have := h9 h; omega
      have e1 : (UInt8.ofNat (t % 128 + 128)).toNat = t % 128 + 128 := by rw [UInt8.toNat_ofNat']; omega
      have e2 : t / 128 * 128 ^ (k + 1) + t % 128 * 128 ^ k = t * 128 ^ k := by
        rw [Nat.pow_succ, Nat.mul_comm (128 ^ k), ← Nat.mul_assoc, ← Nat.add_mul]
        congr 1
        omega
      match n, hn with
      | 0, hn => exact absurd hn (by omega)
      | n + 1, hn =>
        have ih := numF_back rest n (t / 128) (k + 1) (a + t % 128 * 128 ^ k) (by omega) (by omega) (fun h => by
          have h8 : k = 8 := by omega
          subst h8
          have h4 : (128 : Nat) ^ 8 = 72057594037927936 := rfl
          rw [h4] at hm
          omega) (fun _ => by omega) (by omega)
        rw [vr_big _ (by omega), List.cons_append, numF, e1, if_neg (by omega), if_neg (by omega), show (t % 128 + 128) % 128 = t % 128 by omega, ih, List.length_cons]
        simp only [Prod.mk.injEq, and_true]
        omega
theorem numF_of_vr (rest : List UInt8) (t : Nat) (h : t ≤ 18446744073709551615) : numF (vr t ++ rest) 0 0 = (t, (vr t).length, 0) := by
  have := numF_back rest t t 0 0 (Nat.le_refl _) (by omega) (by omega) (by omega) (by omega)
  simpa using this
theorem vaN_le (l : List UInt8) (p q m : Nat) (hp : p ≤ l.length) : (vaN l p q m).2.1 ≤ l.length := by
  unfold vaN
  have := numF_at l p hp
  repeat' split
  all_goals simp only; omega
theorem txN_le (l : List UInt8) (p q : Nat) (m : Int) (hp : p ≤ l.length) : (txN l p q m).2.1 ≤ l.length := by
  unfold txN
  have := numF_at l p hp
  repeat' split
  all_goals simp only; omega
theorem vaN_max (l : List UInt8) (p q m : Nat) : (vaN l p q m).1 ≤ 18446744073709551615 := by
  have := numF_max (l.drop p) 0 0 (by omega) (by decide)
  unfold vaN
  repeat' split
  all_goals simp only; omega
/-- What is read without an error is what writing it makes. -/
theorem just_law (l : List UInt8) (M : Nat) (m : Int) (h : (txN l (vaN l 0 0 M).2.1 (vaN l 0 0 M).2.2 m).2.2 = 0) :
    vr (vaN l 0 0 M).1 ++ (vr (txN l (vaN l 0 0 M).2.1 (vaN l 0 0 M).2.2 m).1.length ++ (txN l (vaN l 0 0 M).2.1 (vaN l 0 0 M).2.2 m).1) = l.take (txN l (vaN l 0 0 M).2.1 (vaN l 0 0 M).2.2 m).2.1 := by
  have hq : (vaN l 0 0 M).2.2 = 0 := by
    by_cases hq : (vaN l 0 0 M).2.2 = 0
    · exact hq
    · rw [txN, if_pos hq] at h
      exact absurd h hq
  have hv : vaN l 0 0 M = ((numF l 0 0).1, (numF l 0 0).2.1, 0) ∧ (numF l 0 0).2.2 = 0 := by
    unfold vaN at hq ⊢
    rw [if_neg (by omega), List.drop_zero] at hq ⊢
    split at hq
    · rename_i h1; exact absurd hq h1
    · rename_i h1
      split at hq
      · simp at hq
      · rename_i h2
        rw [if_neg h1, if_neg h2]
        exact ⟨by rw [Nat.zero_add], by omega⟩
  obtain ⟨hv, he⟩ := hv
  rw [hv] at h ⊢
  simp only at h ⊢
  obtain ⟨t, h1, h2, h3, h4, _⟩ := numF_vr l 0 0 (numF l 0 0).1 (numF l 0 0).2.1 (triple he)
  have hvt : (numF l 0 0).1 = t := by omega
  have htx : txN l (numF l 0 0).2.1 0 m = (tkL l ((numF l 0 0).2.1 + (numF (l.drop (numF l 0 0).2.1) 0 0).2.1) (numF (l.drop (numF l 0 0).2.1) 0 0).1, (numF l 0 0).2.1 + (numF (l.drop (numF l 0 0).2.1) 0 0).2.1 + (numF (l.drop (numF l 0 0).2.1) 0 0).1, 0) ∧ (numF (l.drop (numF l 0 0).2.1) 0 0).2.2 = 0 ∧ (numF (l.drop (numF l 0 0).2.1) 0 0).1 ≤ l.length - ((numF l 0 0).2.1 + (numF (l.drop (numF l 0 0).2.1) 0 0).2.1) := by
    unfold txN at h ⊢
    rw [if_neg (by omega)] at h ⊢
    split at h
    · rename_i h5; exact absurd h h5
    · rename_i h5
      split at h
      · simp at h
      · rename_i h6
        split at h
        · rename_i h7
          rw [if_neg h5, if_neg h6, if_pos h7]
          exact ⟨rfl, by omega, h7⟩
        · simp at h
  obtain ⟨htx, he2, hle⟩ := htx
  rw [htx]
  simp only
  generalize hj : (numF l 0 0).2.1 = j at *
  obtain ⟨t2, g1, g2, g3, g4, _⟩ := numF_vr (l.drop j) 0 0 (numF (l.drop j) 0 0).1 (numF (l.drop j) 0 0).2.1 (triple he2)
  generalize (numF (l.drop j) 0 0).2.1 = i at *
  generalize (numF (l.drop j) 0 0).1 = s at *
  have hs : s = t2 := by omega
  rw [tkL_ok hle, hvt, h4, hs, g4, tkL, if_pos (by omega), Nat.sub_zero, Nat.sub_zero]
  have e1 : l.take (j + i + t2) = l.take j ++ ((l.drop j).take i ++ ((l.drop j).drop i).take t2) := by
    rw [Nat.add_assoc, List.take_add, List.take_add]
  rw [e1, List.drop_drop]
end Go.Proofs.Ytcbnhmcfdpcbhaa
