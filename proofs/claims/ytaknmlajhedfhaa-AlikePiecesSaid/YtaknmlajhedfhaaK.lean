/-
  What two texts have in common: plain laws.
-/
import Derived.Test.YtaknmlajhedfhaaJ
import Derived.Test.YtaknmlajhedfhaaZq
namespace Go.Proofs.Ytaknmlajhedfhaa
open Go.RowKit Zk Zx
set_option linter.unusedVariables false
theorem sum_filt {α : Type} (f : α → Nat) (p : α → Bool) : ∀ l : List α, (∀ x ∈ l, p x = false → f x = 0) → (l.map f).sum = ((l.filter p).map f).sum
  | [], _ => rfl
  | x :: l, h => by
    have ih := sum_filt f p l (fun y hy => h y (List.mem_cons_of_mem _ hy))
    rw [List.map_cons, List.sum_cons, List.filter_cons, ih]
    cases hp : p x
    · rw [if_neg (by simp), h x List.mem_cons_self hp]; omega
    · rw [if_pos rfl, List.map_cons, List.sum_cons]
theorem com_sup {A B ks : List (List UInt8)} (hn : ks.Nodup) (h : ∀ t ∈ A, t ∈ ks) : com A B ks = comT A B := by
  have e : com A B ks = com A B (ks.filter fun t => decide (t ∈ A)) := by
    unfold com
    refine sum_filt _ _ ks fun t _ hp => ?_
    rw [List.count_eq_zero_of_not_mem (of_decide_eq_false hp)]
    simp
  rw [e]
  refine comT_of (List.filter_sublist.nodup hn) fun t => ?_
  rw [List.mem_filter, decide_eq_true_iff]
  exact ⟨fun h2 => h2.2, fun h2 => ⟨h t h2, h2⟩⟩
theorem com_comm (A B ks : List (List UInt8)) : com A B ks = com B A ks := by
  unfold com
  congr 1
  refine List.map_congr_left fun t _ => ?_
  rw [Nat.min_comm]
theorem comT_comm (A B : List (List UInt8)) : comT A B = comT B A := by
  have hn := dd_nodup (A ++ B)
  rw [← com_sup hn (fun t ht => (dd_mem t _).2 (List.mem_append_left _ ht)), com_comm, com_sup hn (fun t ht => (dd_mem t _).2 (List.mem_append_right _ ht))]
theorem comT_self (A : List (List UInt8)) : comT A A = (A.map List.length).sum := by
  rw [comT, ← all_eq A (dd A) (dd_nodup A) (fun t ht => (dd_mem t A).2 ht)]
  unfold com
  congr 1
  refine List.map_congr_left fun t _ => ?_
  rw [Nat.min_self]
theorem comT_mono (A C B : List (List UInt8)) : comT A B ≤ comT (A ++ C) B := by
  have hn := dd_nodup (A ++ C)
  rw [← com_sup hn (fun t ht => (dd_mem t _).2 (List.mem_append_left _ ht)), ← com_sup hn (fun t ht => (dd_mem t _).2 ht)]
  unfold com
  refine sum_le _ _ _ fun t _ => Nat.mul_le_mul_right _ ?_
  rw [List.count_append]
  omega
theorem cutF_nl (b : List UInt8) : ∀ (a now : List UInt8), cutF now (a ++ 10 :: b) = cutF now (a ++ [10]) ++ cutF [] b
  | [], now => by
    rw [List.nil_append, List.nil_append, cutF, if_pos (.inl rfl), cutF, if_pos (.inl rfl), cutF, if_pos rfl]
    rfl
  | c :: a, now => by
    rw [List.cons_append, List.cons_append, cutF, cutF]
    split
    · rw [cutF_nl b a [], List.cons_append]
    · rw [cutF_nl b a]
theorem cuts_nl (a b : List UInt8) : cuts (a ++ [10] ++ b) = cuts (a ++ [10]) ++ cuts b := by
  unfold cuts
  rw [List.append_assoc]
  exact cutF_nl b a []
theorem score_comm (a b : List UInt8) (n m : Nat) : scoreF (comT (cuts a) (cuts b)) n m = scoreF (comT (cuts b) (cuts a)) m n := by rw [comT_comm, scoreF_comm]
theorem score_self (a : List UInt8) (n : Nat) (h : a.length = n) : scoreF (comT (cuts a) (cuts a)) n n = 1000 := by
  rw [comT_self, cuts_sum, h, scoreF]
  split
  · rfl
  · rw [Nat.max_self, Nat.mul_div_cancel _ (by omega)]
theorem score_most (a b : List UInt8) (n m : Nat) (h1 : a.length = n) (h2 : b.length = m) (hn : n ≤ 1099511627776) (hm : m ≤ 1099511627776) : (scoreF (comT (cuts a) (cuts b)) n m : Int) ≤ mostF n m := by
  rw [mostF_of n m hn hm]
  have h3 := comT_le (cuts a) (cuts b)
  rw [cuts_sum, cuts_sum, h1, h2] at h3
  unfold scoreF
  split
  · omega
  · exact Int.ofNat_le.2 (Nat.div_le_div_right (Nat.mul_le_mul_left _ (by omega)))
end Go.Proofs.Ytaknmlajhedfhaa
