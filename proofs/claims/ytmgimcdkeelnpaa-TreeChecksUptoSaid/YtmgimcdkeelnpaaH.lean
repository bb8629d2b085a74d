/-
  Names.
-/
import Derived.Test.YtmgimcdkeelnpaaG
namespace Go.Proofs.Ytmgimcdkeelnpaa
open Go.RowKit Zk Zx
set_option linter.unusedVariables false
set_option linter.unusedSimpArgs false

def seenP (s : ByteArray) : Prop := ∀ k, k < s.size → 33 ≤ g8 s.data.toList k ∧ g8 s.data.toList k ≤ 126
instance (s : ByteArray) : Decidable (seenP s) := inferInstanceAs (Decidable (∀ k, k < s.size → 33 ≤ g8 s.data.toList k ∧ g8 s.data.toList k ≤ 126))
/-- May a text be a name? -/
def nmOk (s : ByteArray) : Bool := decide (1 ≤ s.size) && (decide (s.size ≤ 32) && (decide (seenP s) && (decide ((47 : UInt8) ∉ s.data.toList) && (decide (s ≠ ⟨#[46]⟩) && decide (s ≠ ⟨#[46, 46]⟩)))))
theorem idx_ge : ∀ (l : List UInt8) (c : UInt8), 0 ≤ Lib.indexByte l c ↔ c ∈ l
  | [], c => by unfold Lib.indexByte; simp
  | b :: l, c => by
    have ih := idx_ge l c
    have h0 := Lib.indexByte_ge l c
    unfold Lib.indexByte
    by_cases h : b = c
    · subst h; simp
    · have hb : (b == c) = false := by simp [h]
      rw [hb]
      simp only [Bool.false_eq_true, if_false, List.mem_cons, Ne.symm h, false_or]
      by_cases h1 : Lib.indexByte l c = -1
      · rw [h1]
        simp only [beq_self_eq_true, if_true]
        rw [← ih, h1]
      · have : (Lib.indexByte l c == -1) = false := by simp [h1]
        rw [this]
        simp only [Bool.false_eq_true, if_false]
        rw [← ih]
        omega
theorem strIdx (s : ByteArray) (w0 : World) : Calls Try.prog 61 #[.string s, .int .u8 47] w0 fun e w' => ∃ u, e = .returned u ∧ Like w0 w' ∧ u = .int .i64 (Lib.indexByte s.data.toList 47) :=
  (show Calls Try.prog 61 _ _ _ from Any.stringslite_IndexByte idxS s 47 w0).mono fun e w' ⟨h1, h2⟩ => by
    subst h2
    exact ⟨_, h1, Like.refl _, rfl⟩
theorem idx_self : Lib.indexByte (⟨#[47]⟩ : ByteArray).data.toList 47 = 0 := by decide +kernel
/-- How many strokes. -/
def cnSl (l : List UInt8) : Nat := l.count 47
theorem cn_step {l : List UInt8} {k : Nat} (hk : k < l.length) : cnSl (l.take (k + 1)) = cnSl (l.take k) + if g8 l k = 47 then 1 else 0 := by
  unfold cnSl
  rw [List.take_add_one, List.getElem?_eq_getElem hk, Option.toList_some, List.count_append]
  congr 1
  have e : g8 l k = ((l[k]).toNat : Int) := by simp [g8, List.getD_eq_getElem?_getD, List.getElem?_eq_getElem hk]
  rw [e]
  by_cases h : l[k] = 47
  · rw [h]; rfl
  · rw [if_neg (fun h2 => h (UInt8.toNat_inj.1 (by show _ = 47; omega))), List.count_eq_zero_of_not_mem (by simp; exact fun e => h e.symm)]
theorem cn_zero {l : List UInt8} : cnSl l = 0 ↔ (47 : UInt8) ∉ l := by unfold cnSl; exact List.count_eq_zero
theorem cn_le (l : List UInt8) : cnSl l ≤ l.length := List.count_le_length


set_option maxRecDepth 100000 in
theorem mode_ (m : Int) (w0 : World)  :
    Calls Try.prog 26 #[.int .i64 m] w0 fun e w' => ∃ u, e = .returned u ∧ Like w0 w' ∧ u = .bool (decide (m = 1 ∨ m = 2 ∨ m = 3)) := by
  refine enter1 (env := [(0, .int .i64 m)]) [.int .i64 m] Try.func26 rfl Try.ntmps26 rfl rfl ?_
  have S0 := St.start w0 noM
  refine T_seq fun K1 hK1 => ?_
  refine T_region ?_
  refine L_y (y_assign rfl) rfl ?_
  refine L_nil ?_
  refine hK1 _ _ ?_
  refine T_seq fun K2 hK2 => ?_
  refine T_region ?_
  refine L_y (y_move rfl) rfl ?_
  refine L_y (y_eql rfl rfl) rfl ?_
  refine L_y (y_move rfl) rfl ?_
  refine L_split 5 rfl (fun h5 => ?_) (fun h5 => ?_)
  ·
    refine L_gno rfl rfl rfl ?_
    refine L_gno rfl rfl rfl ?_
    refine L_y ((by first | exact y_pickT rfl rfl | exact y_pickF rfl rfl)) rfl ?_
    refine L_y (y_move rfl) rfl ?_
    refine L_gno rfl rfl rfl ?_
    refine L_gno rfl rfl rfl ?_
    refine L_y ((by first | exact y_pickT rfl rfl | exact y_pickF rfl rfl)) rfl ?_
    refine L_y (y_assign rfl) rfl ?_
    refine L_nil ?_
    refine hK2 _ _ ?_
    refine T_ret ?_
    repeat (first | with_reducible refine up_then ?_ | with_reducible refine up_in ?_)
    refine ret1 rfl rfl ?_
    exact ⟨_, rfl, S0.like0, congrArg Value.bool (by first | (rw [Bool.eq_iff_iff]; simp only [decide_eq_true_eq, true_iff, false_iff, Bool.true_eq, Bool.false_eq, Bool.false_eq_true]; omega) | (simp; omega))⟩
  ·
    refine L_gyes rfl rfl ?_
    refine L_y (y_move rfl) rfl ?_
    refine L_gyes rfl rfl ?_
    refine L_y (y_eql rfl rfl) rfl ?_
    refine L_y ((by first | exact y_pickT rfl rfl | exact y_pickF rfl rfl)) rfl ?_
    refine L_y (y_move rfl) rfl ?_
    refine L_split 9 rfl (fun h9 => ?_) (fun h9 => ?_)
    ·
      refine L_gno rfl rfl rfl ?_
      refine L_gno rfl rfl rfl ?_
      refine L_y ((by first | exact y_pickT rfl rfl | exact y_pickF rfl rfl)) rfl ?_
      refine L_y (y_assign rfl) rfl ?_
      refine L_nil ?_
      refine hK2 _ _ ?_
      refine T_ret ?_
      repeat (first | with_reducible refine up_then ?_ | with_reducible refine up_in ?_)
      refine ret1 rfl rfl ?_
      exact ⟨_, rfl, S0.like0, congrArg Value.bool (by first | (rw [Bool.eq_iff_iff]; simp only [decide_eq_true_eq, true_iff, false_iff, Bool.true_eq, Bool.false_eq, Bool.false_eq_true]; omega) | (simp; omega))⟩
    ·
      refine L_gyes rfl rfl ?_
      refine L_y (y_move rfl) rfl ?_
      refine L_gyes rfl rfl ?_
      refine L_y (y_eql rfl rfl) rfl ?_
      refine L_y ((by first | exact y_pickT rfl rfl | exact y_pickF rfl rfl)) rfl ?_
      refine L_y (y_assign rfl) rfl ?_
      refine L_nil ?_
      refine hK2 _ _ ?_
      refine T_ret ?_
      repeat (first | with_reducible refine up_then ?_ | with_reducible refine up_in ?_)
      refine ret1 rfl rfl ?_
      exact ⟨_, rfl, S0.like0, congrArg Value.bool (by first | (rw [Bool.eq_iff_iff]; simp only [decide_eq_true_eq, true_iff, false_iff, Bool.true_eq, Bool.false_eq, Bool.false_eq_true]; omega) | (simp; omega))⟩


set_option maxRecDepth 100000 in
theorem plain_ (s : ByteArray) (w0 : World) (hs : s.size ≤ 1000) :
    Calls Try.prog 37 #[.string s] w0 fun e w' => ∃ u, e = .returned u ∧ Like w0 w' ∧ u = .bool (decide (seenP s)) := by
  refine enter1 (env := [(0, .string s)]) [.string s] Try.func37 rfl Try.ntmps37 rfl rfl ?_
  have S0 := St.start w0 noM
  refine T_seq fun K1 hK1 => ?_
  refine T_region ?_
  refine L_y (y_assign rfl) rfl ?_
  refine L_nil ?_
  refine hK1 _ _ ?_
  refine T_seq fun K2 hK2 => ?_
  refine T_seq fun K3 hK3 => ?_
  refine T_region ?_
  refine L_y (y_move rfl) rfl ?_
  refine L_y (y_lens Try.underlying9 rfl) rfl ?_
  refine L_y (y_move rfl) rfl ?_
  refine L_nil ?_
  refine hK3 _ _ ?_
  refine T_block ?_
  refine T_loop1 [(0, _), (5, _)] (fun (k : Nat) => [(6, .int .i64 (k : Int))]) (fun (k : Nat) => s.size - k) (fun (k : Nat) (w : World) => (k ≤ s.size ∧ (∀ j, j < k → 33 ≤ g8 s.data.toList j ∧ g8 s.data.toList j ≤ 126)) ∧ St w0 noM [] w) 0 (Sub.cons rfl (by first | rfl | exact congrArg (Value.int _) (by omega)) (Sub.nil _)) (Sub.cons rfl rfl (Sub.cons rfl rfl (Sub.nil _))) ?_ ?_
  ·
    exact ⟨⟨Nat.zero_le _, fun j hj => absurd hj (by omega)⟩, S0⟩
  ·
    intro k w1 hrel
    obtain ⟨⟨hk, hse⟩, S1⟩ := hrel
    refine T_seq fun K4 hK4 => ?_
    refine T_region ?_
    refine L_y (y_lss rfl rfl) rfl ?_
    refine L_nil ?_
    refine hK4 _ _ ?_
    refine T_seq fun K5 hK5 => ?_
    refine T_cond rfl (fun h7 => ?_) (fun h7 => ?_)
    ·
      refine T_skip ?_
      refine hK5 _ _ ?_
      refine T_seq fun K6 hK6 => ?_
      refine T_block ?_
      refine T_seq fun K7 hK7 => ?_
      refine T_region ?_
      refine L_y (y_move rfl) rfl ?_
      refine L_y (y_assign rfl) rfl ?_
      refine L_nil ?_
      refine hK7 _ _ ?_
      refine T_seq fun K8 hK8 => ?_
      refine T_region ?_
      refine L_y (y_move rfl) rfl ?_
      refine L_y (y_move rfl) rfl ?_
      refine L_y (y_idxS Try.underlying9 rfl rfl inferInstance (by omega)) rfl ?_
      refine L_y (y_lss rfl rfl) rfl ?_
      refine L_y (y_move rfl) rfl ?_
      refine L_split 13 rfl (fun h13 => ?_) (fun h13 => ?_)
      ·
        refine L_gno rfl rfl rfl ?_
        refine L_gno rfl rfl rfl ?_
        refine L_gno rfl rfl rfl ?_
        refine L_gno rfl rfl rfl ?_
        refine L_y ((by first | exact y_pickT rfl rfl | exact y_pickF rfl rfl)) rfl ?_
        refine L_nil ?_
        refine hK8 _ _ ?_
        refine T_true rfl ?_
        refine T_seq fun K9 hK9 => ?_
        refine T_region ?_
        refine L_y (y_assign rfl) rfl ?_
        refine L_nil ?_
        refine hK9 _ _ ?_
        refine T_ret ?_
        repeat (first | with_reducible refine up_then ?_ | with_reducible refine up_in ?_)
        refine ret1 rfl rfl ?_
        first | exact ⟨_, rfl, S1.like0, congrArg Value.bool (decide_eq_false (fun h => by have := h k (by omega); omega)).symm⟩ | exact ⟨_, rfl, S1.like0, congrArg Value.bool (decide_eq_true (fun j hj => hse j (by omega))).symm⟩
      ·
        refine L_gyes rfl rfl ?_
        refine L_y (y_move rfl) rfl ?_
        refine L_gyes rfl rfl ?_
        refine L_y (y_move rfl) rfl ?_
        refine L_gyes rfl rfl ?_
        refine L_y (y_idxS Try.underlying9 rfl rfl inferInstance (by omega)) rfl ?_
        refine L_gyes rfl rfl ?_
        refine L_y (y_gtr rfl rfl) rfl ?_
        refine L_y ((by first | exact y_pickT rfl rfl | exact y_pickF rfl rfl)) rfl ?_
        refine L_nil ?_
        refine hK8 _ _ ?_
        refine T_cond rfl (fun h18 => ?_) (fun h18 => ?_)
        ·
          refine T_seq fun K10 hK10 => ?_
          refine T_region ?_
          refine L_y (y_assign rfl) rfl ?_
          refine L_nil ?_
          refine hK10 _ _ ?_
          refine T_ret ?_
          repeat (first | with_reducible refine up_then ?_ | with_reducible refine up_in ?_)
          refine ret1 rfl rfl ?_
          first | exact ⟨_, rfl, S1.like0, congrArg Value.bool (decide_eq_false (fun h => by have := h k (by omega); omega)).symm⟩ | exact ⟨_, rfl, S1.like0, congrArg Value.bool (decide_eq_true (fun j hj => hse j (by omega))).symm⟩
        ·
          refine T_skip ?_
          refine hK6 _ _ ?_
          refine T_region ?_
          refine L_y (y_add rfl rfl (i64w (by omega))) rfl ?_
          refine L_y (y_move rfl) rfl ?_
          refine L_nil ?_
          refine ⟨k + 1, by omega, ⟨⟨by omega, fun j hj => by rcases Nat.lt_or_ge j k with q | q; exact hse j q; (have e9 : j = k := by omega); subst e9; omega⟩, S1⟩, ?_⟩
          exact (Sub.cons rfl (by first | rfl | exact congrArg (Value.int _) (by omega)) (Sub.cons rfl rfl (Sub.cons rfl rfl (Sub.nil _))))
    ·
      refine T_exit ?_
      refine hK2 _ _ ?_
      refine T_seq fun K11 hK11 => ?_
      refine T_region ?_
      refine L_y (y_assign rfl) rfl ?_
      refine L_nil ?_
      refine hK11 _ _ ?_
      refine T_ret ?_
      repeat (first | with_reducible refine up_then ?_ | with_reducible refine up_in ?_)
      refine ret1 rfl rfl ?_
      first | exact ⟨_, rfl, S1.like0, congrArg Value.bool (decide_eq_false (fun h => by have := h k (by omega); omega)).symm⟩ | exact ⟨_, rfl, S1.like0, congrArg Value.bool (decide_eq_true (fun j hj => hse j (by omega))).symm⟩


set_option maxRecDepth 100000 in
theorem seen_ (s : ByteArray) (w0 : World) (hs : s.size ≤ 1000) :
    Calls Try.prog 39 #[.string s] w0 fun e w' => ∃ u, e = .returned u ∧ Like w0 w' ∧ u = .bool (decide (seenP s)) := by
  refine enter1 (env := [(0, .string s)]) [.string s] Try.func39 rfl Try.ntmps39 rfl rfl ?_
  have S0 := St.start w0 noM
  refine T_seq fun K1 hK1 => ?_
  refine T_region ?_
  refine L_y (y_assign rfl) rfl ?_
  refine L_nil ?_
  refine hK1 _ _ ?_
  refine T_seq fun K2 hK2 => ?_
  refine T_seq fun K3 hK3 => ?_
  refine T_region ?_
  refine L_y (y_assign rfl) rfl ?_
  refine L_nil ?_
  refine hK3 _ _ ?_
  refine T_block ?_
  refine T_loop1 [(0, _)] (fun (k : Nat) => [(3, .int .i64 (k : Int))]) (fun (k : Nat) => s.size - k) (fun (k : Nat) (w : World) => (k ≤ s.size ∧ (∀ j, j < k → 33 ≤ g8 s.data.toList j ∧ g8 s.data.toList j ≤ 126)) ∧ St w0 noM [] w) 0 (Sub.cons rfl (by first | rfl | exact congrArg (Value.int _) (by omega)) (Sub.nil _)) (Sub.cons rfl rfl (Sub.nil _)) ?_ ?_
  ·
    exact ⟨⟨Nat.zero_le _, fun j hj => absurd hj (by omega)⟩, S0⟩
  ·
    intro k w1 hrel
    obtain ⟨⟨hk, hse⟩, S1⟩ := hrel
    refine T_seq fun K4 hK4 => ?_
    refine T_seq fun K5 hK5 => ?_
    refine T_region ?_
    refine L_y (y_move rfl) rfl ?_
    refine L_y (y_move rfl) rfl ?_
    refine L_y (y_lens Try.underlying9 rfl) rfl ?_
    refine L_y (y_lss rfl rfl) rfl ?_
    refine L_nil ?_
    refine hK5 _ _ ?_
    refine T_cond rfl (fun h7 => ?_) (fun h7 => ?_)
    ·
      refine T_skip ?_
      refine hK4 _ _ ?_
      refine T_seq fun K6 hK6 => ?_
      refine T_block ?_
      refine T_seq fun K7 hK7 => ?_
      refine T_region ?_
      refine L_y (y_move rfl) rfl ?_
      refine L_y (y_move rfl) rfl ?_
      refine L_y (y_idxS Try.underlying9 rfl rfl inferInstance (by omega)) rfl ?_
      refine L_y (y_lss rfl rfl) rfl ?_
      refine L_y (y_move rfl) rfl ?_
      refine L_split 14 rfl (fun h14 => ?_) (fun h14 => ?_)
      ·
        refine L_gno rfl rfl rfl ?_
        refine L_gno rfl rfl rfl ?_
        refine L_gno rfl rfl rfl ?_
        refine L_gno rfl rfl rfl ?_
        refine L_y ((by first | exact y_pickT rfl rfl | exact y_pickF rfl rfl)) rfl ?_
        refine L_nil ?_
        refine hK7 _ _ ?_
        refine T_true rfl ?_
        refine T_seq fun K8 hK8 => ?_
        refine T_region ?_
        refine L_y (y_assign rfl) rfl ?_
        refine L_nil ?_
        refine hK8 _ _ ?_
        refine T_ret ?_
        repeat (first | with_reducible refine up_then ?_ | with_reducible refine up_in ?_)
        refine ret1 rfl rfl ?_
        first | exact ⟨_, rfl, S1.like0, congrArg Value.bool (decide_eq_false (fun h => by have := h k (by omega); omega)).symm⟩ | exact ⟨_, rfl, S1.like0, congrArg Value.bool (decide_eq_true (fun j hj => hse j (by omega))).symm⟩
      ·
        refine L_gyes rfl rfl ?_
        refine L_y (y_move rfl) rfl ?_
        refine L_gyes rfl rfl ?_
        refine L_y (y_move rfl) rfl ?_
        refine L_gyes rfl rfl ?_
        refine L_y (y_idxS Try.underlying9 rfl rfl inferInstance (by omega)) rfl ?_
        refine L_gyes rfl rfl ?_
        refine L_y (y_gtr rfl rfl) rfl ?_
        refine L_y ((by first | exact y_pickT rfl rfl | exact y_pickF rfl rfl)) rfl ?_
        refine L_nil ?_
        refine hK7 _ _ ?_
        refine T_cond rfl (fun h19 => ?_) (fun h19 => ?_)
        ·
          refine T_seq fun K9 hK9 => ?_
          refine T_region ?_
          refine L_y (y_assign rfl) rfl ?_
          refine L_nil ?_
          refine hK9 _ _ ?_
          refine T_ret ?_
          repeat (first | with_reducible refine up_then ?_ | with_reducible refine up_in ?_)
          refine ret1 rfl rfl ?_
          first | exact ⟨_, rfl, S1.like0, congrArg Value.bool (decide_eq_false (fun h => by have := h k (by omega); omega)).symm⟩ | exact ⟨_, rfl, S1.like0, congrArg Value.bool (decide_eq_true (fun j hj => hse j (by omega))).symm⟩
        ·
          refine T_skip ?_
          refine hK6 _ _ ?_
          refine T_region ?_
          refine L_y (y_move rfl) rfl ?_
          refine L_y (y_add rfl rfl (i64w (by omega))) rfl ?_
          refine L_y (y_assign rfl) rfl ?_
          refine L_nil ?_
          refine ⟨k + 1, by omega, ⟨⟨by omega, fun j hj => by rcases Nat.lt_or_ge j k with q | q; exact hse j q; (have e9 : j = k := by omega); subst e9; omega⟩, S1⟩, ?_⟩
          exact (Sub.cons rfl (by first | rfl | exact congrArg (Value.int _) (by omega)) (Sub.cons rfl rfl (Sub.nil _)))
    ·
      refine T_exit ?_
      refine hK2 _ _ ?_
      refine T_seq fun K10 hK10 => ?_
      refine T_region ?_
      refine L_y (y_assign rfl) rfl ?_
      refine L_nil ?_
      refine hK10 _ _ ?_
      refine T_ret ?_
      repeat (first | with_reducible refine up_then ?_ | with_reducible refine up_in ?_)
      refine ret1 rfl rfl ?_
      first | exact ⟨_, rfl, S1.like0, congrArg Value.bool (decide_eq_false (fun h => by have := h k (by omega); omega)).symm⟩ | exact ⟨_, rfl, S1.like0, congrArg Value.bool (decide_eq_true (fun j hj => hse j (by omega))).symm⟩


set_option maxRecDepth 100000 in
theorem sidx (s : ByteArray) (w0 : World)  :
    Calls Try.prog 54 #[.string s, .string ⟨#[47]⟩] w0 fun e w' => ∃ u, e = .returned u ∧ Like w0 w' ∧ u = .int .i64 (Lib.indexByte s.data.toList 47) := by
  refine enter1 (env := [(0, .string s), (1, .string ⟨#[47]⟩)]) [.string s, .string ⟨#[47]⟩] Try.func54 rfl Try.ntmps54 rfl rfl ?_
  have h1z : (⟨#[47]⟩ : ByteArray).size = 1 := rfl; have S0 := St.start w0 noM
  refine T_seq fun K1 hK1 => ?_
  refine T_region ?_
  refine L_y (y_assign rfl) rfl ?_
  refine L_nil ?_
  refine hK1 _ _ ?_
  refine T_seq fun K2 hK2 => ?_
  refine T_region ?_
  refine L_y (y_move rfl) rfl ?_
  refine L_y (y_lens Try.underlying9 rfl) rfl ?_
  refine L_y (y_assign rfl) rfl ?_
  refine L_nil ?_
  refine hK2 _ _ ?_
  refine T_seq fun K3 hK3 => ?_
  refine T_block ?_
  refine T_seq fun K4 hK4 => ?_
  refine T_region ?_
  refine L_y (y_move rfl) rfl ?_
  refine L_y (y_eql rfl rfl) rfl ?_
  refine L_y (y_move rfl) rfl ?_
  refine L_split 19 rfl (fun h19 => ?_) (fun h19 => ?_)
  ·
    omega
  ·
    refine L_gyes rfl rfl ?_
    refine L_y (y_move rfl) rfl ?_
    refine L_gyes rfl rfl ?_
    refine L_y (y_move rfl) rfl ?_
    refine L_gyes rfl rfl ?_
    refine L_y (y_seql rfl rfl) rfl ?_
    refine L_y ((by first | exact y_pickT rfl rfl | exact y_pickF rfl rfl)) rfl ?_
    refine L_y (y_assign rfl) rfl ?_
    refine L_nil ?_
    refine hK4 _ _ ?_
    refine T_cond rfl (fun h16 => ?_) (fun h16 => ?_)
    ·
      refine T_seq fun K5 hK5 => ?_
      refine T_region ?_
      refine L_y (y_assign rfl) rfl ?_
      refine L_nil ?_
      refine hK5 _ _ ?_
      refine T_ret ?_
      repeat (first | with_reducible refine up_then ?_ | with_reducible refine up_in ?_)
      refine ret1 rfl rfl ?_
      subst h16
      exact ⟨_, rfl, S0.like0, congrArg (Value.int _) idx_self.symm⟩
    ·
      refine T_seq fun K6 hK6 => ?_
      refine T_region ?_
      refine L_y (y_move rfl) rfl ?_
      refine L_y (y_eql rfl rfl) rfl ?_
      refine L_y (y_assign rfl) rfl ?_
      refine L_nil ?_
      refine hK6 _ _ ?_
      refine T_cond rfl (fun h24 => ?_) (fun h24 => ?_)
      ·
        refine T_seq fun K7 hK7 => ?_
        refine T_region ?_
        refine L_y (y_move rfl) rfl ?_
        refine L_y (y_move rfl) rfl ?_
        refine L_y (y_idxS Try.underlying9 rfl rfl inferInstance (by omega)) rfl ?_
        refine L_o (o_call Try.func61 rfl rfl (strIdx s w0) rfl rfl ?_)
        rintro e2 w2 ⟨v2, rfl, l2, rfl⟩
        refine ⟨_, rfl, ?_⟩
        have S2 := S0.like l2
        refine L_y (y_assign rfl) rfl ?_
        refine L_nil ?_
        refine hK7 _ _ ?_
        refine T_ret ?_
        repeat (first | with_reducible refine up_then ?_ | with_reducible refine up_in ?_)
        refine ret1 rfl rfl ?_
        exact ⟨_, rfl, S2.like0, rfl⟩
      ·
        omega


set_option maxRecDepth 100000 in
theorem sidx2 (s : ByteArray) (w0 : World)  :
    Calls Try.prog 47 #[.string s, .string ⟨#[47]⟩] w0 fun e w' => ∃ u, e = .returned u ∧ Like w0 w' ∧ u = .int .i64 (Lib.indexByte s.data.toList 47) := by
  refine enter1 (env := [(0, .string s), (1, .string ⟨#[47]⟩)]) [.string s, .string ⟨#[47]⟩] Try.func47 rfl Try.ntmps47 rfl rfl ?_
  have S0 := St.start w0 noM
  refine T_seq fun K1 hK1 => ?_
  refine T_region ?_
  refine L_y (y_assign rfl) rfl ?_
  refine L_nil ?_
  refine hK1 _ _ ?_
  refine T_seq fun K2 hK2 => ?_
  refine T_region ?_
  refine L_y (y_move rfl) rfl ?_
  refine L_y (y_move rfl) rfl ?_
  refine L_o (o_call Try.func54 rfl rfl (sidx s w0) rfl rfl ?_)
  rintro e1 w1 ⟨v1, rfl, l1, rfl⟩
  refine ⟨_, rfl, ?_⟩
  have S1 := S0.like l1
  refine L_y (y_assign rfl) rfl ?_
  refine L_nil ?_
  refine hK2 _ _ ?_
  refine T_ret ?_
  repeat (first | with_reducible refine up_then ?_ | with_reducible refine up_in ?_)
  refine ret1 rfl rfl ?_
  exact ⟨_, rfl, S1.like0, rfl⟩


set_option maxRecDepth 100000 in
theorem contai (s : ByteArray) (w0 : World)  :
    Calls Try.prog 38 #[.string s, .string ⟨#[47]⟩] w0 fun e w' => ∃ u, e = .returned u ∧ Like w0 w' ∧ u = .bool (decide ((47 : UInt8) ∈ s.data.toList)) := by
  refine enter1 (env := [(0, .string s), (1, .string ⟨#[47]⟩)]) [.string s, .string ⟨#[47]⟩] Try.func38 rfl Try.ntmps38 rfl rfl ?_
  have S0 := St.start w0 noM
  refine T_seq fun K1 hK1 => ?_
  refine T_region ?_
  refine L_y (y_assign rfl) rfl ?_
  refine L_nil ?_
  refine hK1 _ _ ?_
  refine T_seq fun K2 hK2 => ?_
  refine T_region ?_
  refine L_y (y_move rfl) rfl ?_
  refine L_y (y_move rfl) rfl ?_
  refine L_o (o_call Try.func47 rfl rfl (sidx2 s w0) rfl rfl ?_)
  rintro e1 w1 ⟨v1, rfl, l1, rfl⟩
  refine ⟨_, rfl, ?_⟩
  have S1 := S0.like l1
  refine L_y (y_geq rfl rfl) rfl ?_
  refine L_y (y_assign rfl) rfl ?_
  refine L_nil ?_
  refine hK2 _ _ ?_
  refine T_ret ?_
  repeat (first | with_reducible refine up_then ?_ | with_reducible refine up_in ?_)
  refine ret1 rfl rfl ?_
  exact ⟨_, rfl, S1.like0, congrArg Value.bool (decide_eq_decide.2 (idx_ge _ _))⟩


set_option maxRecDepth 100000 in
theorem pname (s : ByteArray) (w0 : World)  :
    Calls Try.prog 27 #[.string s] w0 fun e w' => ∃ u, e = .returned u ∧ Like w0 w' ∧ u = .bool (nmOk s) := by
  refine enter1 (env := [(0, .string s)]) [.string s] Try.func27 rfl Try.ntmps27 rfl rfl ?_
  have S0 := St.start w0 noM
  refine T_seq fun K1 hK1 => ?_
  refine T_region ?_
  refine L_y (y_assign rfl) rfl ?_
  refine L_nil ?_
  refine hK1 _ _ ?_
  refine T_seq fun K2 hK2 => ?_
  refine T_region ?_
  refine L_y (y_move rfl) rfl ?_
  refine L_y (y_lens Try.underlying9 rfl) rfl ?_
  refine L_y (y_gtr rfl rfl) rfl ?_
  refine L_y (y_move rfl) rfl ?_
  refine L_split 6 rfl (fun h6 => ?_) (fun h6 => ?_)
  ·
    have q6 : 1 ≤ s.size := by omega
    refine L_gyes rfl rfl ?_
    refine L_y (y_move rfl) rfl ?_
    refine L_gyes rfl rfl ?_
    refine L_y (y_lens Try.underlying9 rfl) rfl ?_
    refine L_gyes rfl rfl ?_
    refine L_y (y_leq rfl rfl) rfl ?_
    refine L_y ((by first | exact y_pickT rfl rfl | exact y_pickF rfl rfl)) rfl ?_
    refine L_y (y_move rfl) rfl ?_
    refine L_split 11 rfl (fun h11 => ?_) (fun h11 => ?_)
    ·
      have q11 : s.size ≤ 32 := by omega
      refine L_gyes rfl rfl ?_
      refine L_y (y_move rfl) rfl ?_
      refine L_gyes rfl rfl ?_
      refine L_o (o_call Try.func37 rfl rfl (plain_ s w0 (by omega)) rfl rfl ?_)
      rintro e3 w3 ⟨v3, rfl, l3, rfl⟩
      refine ⟨_, rfl, ?_⟩
      have S3 := S0.like l3
      refine L_y ((by first | exact y_pickT rfl rfl | exact y_pickF rfl rfl)) rfl ?_
      refine L_y (y_move rfl) rfl ?_
      refine L_split 15 rfl (fun h15 => ?_) (fun h15 => ?_)
      ·
        have q15 : seenP s := by first | exact of_decide_eq_true h15 | exact of_decide_eq_false h15 | simpa using h15
        refine L_gyes rfl rfl ?_
        refine L_y (y_move rfl) rfl ?_
        refine L_gyes rfl rfl ?_
        refine L_o (o_call Try.func38 rfl rfl (contai s w3) rfl rfl ?_)
        rintro e5 w5 ⟨v5, rfl, l5, rfl⟩
        refine ⟨_, rfl, ?_⟩
        have S5 := S3.like l5
        refine L_gyes rfl rfl ?_
        refine L_y ((by first | exact y_notD rfl | exact y_not rfl)) rfl ?_
        refine L_y ((by first | exact y_pickT rfl rfl | exact y_pickF rfl rfl)) rfl ?_
        refine L_y (y_move rfl) rfl ?_
        refine L_split 20 rfl (fun h20 => ?_) (fun h20 => ?_)
        ·
          have q20 : (47 : UInt8) ∉ s.data.toList := by simpa using h20
          refine L_gyes rfl rfl ?_
          refine L_y (y_move rfl) rfl ?_
          refine L_gyes rfl rfl ?_
          refine L_y (y_sneq rfl rfl) rfl ?_
          refine L_y ((by first | exact y_pickT rfl rfl | exact y_pickF rfl rfl)) rfl ?_
          refine L_y (y_move rfl) rfl ?_
          refine L_split 24 rfl (fun h24 => ?_) (fun h24 => ?_)
          ·
            have q24 : s ≠ ⟨#[46]⟩ := by simpa using h24
            refine L_gyes rfl rfl ?_
            refine L_y (y_move rfl) rfl ?_
            refine L_gyes rfl rfl ?_
            refine L_y (y_sneq rfl rfl) rfl ?_
            refine L_y ((by first | exact y_pickT rfl rfl | exact y_pickF rfl rfl)) rfl ?_
            refine L_y (y_assign rfl) rfl ?_
            refine L_nil ?_
            refine hK2 _ _ ?_
            refine T_ret ?_
            repeat (first | with_reducible refine up_then ?_ | with_reducible refine up_in ?_)
            refine ret1 rfl rfl ?_
            exact ⟨_, rfl, S5.like0, congrArg Value.bool (by unfold nmOk; simp [q24, q20, q15, q11, q6])⟩
          ·
            have q24 : ¬ s ≠ ⟨#[46]⟩ := by simpa using h24
            refine L_gno rfl rfl rfl ?_
            refine L_gno rfl rfl rfl ?_
            refine L_y ((by first | exact y_pickT rfl rfl | exact y_pickF rfl rfl)) rfl ?_
            refine L_y (y_assign rfl) rfl ?_
            refine L_nil ?_
            refine hK2 _ _ ?_
            refine T_ret ?_
            repeat (first | with_reducible refine up_then ?_ | with_reducible refine up_in ?_)
            refine ret1 rfl rfl ?_
            exact ⟨_, rfl, S5.like0, congrArg Value.bool (by unfold nmOk; simp [q24, q20, q15, q11, q6])⟩
        ·
          have q20 : (47 : UInt8) ∈ s.data.toList := Decidable.not_not.1 h20
          refine L_gno rfl rfl rfl ?_
          refine L_gno rfl rfl rfl ?_
          refine L_y ((by first | exact y_pickT rfl rfl | exact y_pickF rfl rfl)) rfl ?_
          refine L_y (y_move rfl) rfl ?_
          refine L_gno rfl rfl rfl ?_
          refine L_gno rfl rfl rfl ?_
          refine L_y ((by first | exact y_pickT rfl rfl | exact y_pickF rfl rfl)) rfl ?_
          refine L_y (y_assign rfl) rfl ?_
          refine L_nil ?_
          refine hK2 _ _ ?_
          refine T_ret ?_
          repeat (first | with_reducible refine up_then ?_ | with_reducible refine up_in ?_)
          refine ret1 rfl rfl ?_
          exact ⟨_, rfl, S5.like0, congrArg Value.bool (by unfold nmOk; simp [q20, q15, q11, q6])⟩
      ·
        have q15 : ¬ seenP s := by first | exact of_decide_eq_true h15 | exact of_decide_eq_false h15 | simpa using h15
        refine L_gno rfl rfl rfl ?_
        refine L_gno rfl rfl rfl ?_
        refine L_gno rfl rfl rfl ?_
        refine L_y ((by first | exact y_pickT rfl rfl | exact y_pickF rfl rfl)) rfl ?_
        refine L_y (y_move rfl) rfl ?_
        refine L_gno rfl rfl rfl ?_
        refine L_gno rfl rfl rfl ?_
        refine L_y ((by first | exact y_pickT rfl rfl | exact y_pickF rfl rfl)) rfl ?_
        refine L_y (y_move rfl) rfl ?_
        refine L_gno rfl rfl rfl ?_
        refine L_gno rfl rfl rfl ?_
        refine L_y ((by first | exact y_pickT rfl rfl | exact y_pickF rfl rfl)) rfl ?_
        refine L_y (y_assign rfl) rfl ?_
        refine L_nil ?_
        refine hK2 _ _ ?_
        refine T_ret ?_
        repeat (first | with_reducible refine up_then ?_ | with_reducible refine up_in ?_)
        refine ret1 rfl rfl ?_
        exact ⟨_, rfl, S3.like0, congrArg Value.bool (by unfold nmOk; simp [q15, q11, q6])⟩
    ·
      have q11 : ¬ s.size ≤ 32 := by omega
      refine L_gno rfl rfl rfl ?_
      refine L_gno rfl rfl rfl ?_
      refine L_y ((by first | exact y_pickT rfl rfl | exact y_pickF rfl rfl)) rfl ?_
      refine L_y (y_move rfl) rfl ?_
      refine L_gno rfl rfl rfl ?_
      refine L_gno rfl rfl rfl ?_
      refine L_gno rfl rfl rfl ?_
      refine L_y ((by first | exact y_pickT rfl rfl | exact y_pickF rfl rfl)) rfl ?_
      refine L_y (y_move rfl) rfl ?_
      refine L_gno rfl rfl rfl ?_
      refine L_gno rfl rfl rfl ?_
      refine L_y ((by first | exact y_pickT rfl rfl | exact y_pickF rfl rfl)) rfl ?_
      refine L_y (y_move rfl) rfl ?_
      refine L_gno rfl rfl rfl ?_
      refine L_gno rfl rfl rfl ?_
      refine L_y ((by first | exact y_pickT rfl rfl | exact y_pickF rfl rfl)) rfl ?_
      refine L_y (y_assign rfl) rfl ?_
      refine L_nil ?_
      refine hK2 _ _ ?_
      refine T_ret ?_
      repeat (first | with_reducible refine up_then ?_ | with_reducible refine up_in ?_)
      refine ret1 rfl rfl ?_
      exact ⟨_, rfl, S0.like0, congrArg Value.bool (by unfold nmOk; simp [q11, q6])⟩
  ·
    have q6 : ¬ 1 ≤ s.size := by omega
    refine L_gno rfl rfl rfl ?_
    refine L_gno rfl rfl rfl ?_
    refine L_gno rfl rfl rfl ?_
    refine L_y ((by first | exact y_pickT rfl rfl | exact y_pickF rfl rfl)) rfl ?_
    refine L_y (y_move rfl) rfl ?_
    refine L_gno rfl rfl rfl ?_
    refine L_gno rfl rfl rfl ?_
    refine L_y ((by first | exact y_pickT rfl rfl | exact y_pickF rfl rfl)) rfl ?_
    refine L_y (y_move rfl) rfl ?_
    refine L_gno rfl rfl rfl ?_
    refine L_gno rfl rfl rfl ?_
    refine L_gno rfl rfl rfl ?_
    refine L_y ((by first | exact y_pickT rfl rfl | exact y_pickF rfl rfl)) rfl ?_
    refine L_y (y_move rfl) rfl ?_
    refine L_gno rfl rfl rfl ?_
    refine L_gno rfl rfl rfl ?_
    refine L_y ((by first | exact y_pickT rfl rfl | exact y_pickF rfl rfl)) rfl ?_
    refine L_y (y_move rfl) rfl ?_
    refine L_gno rfl rfl rfl ?_
    refine L_gno rfl rfl rfl ?_
    refine L_y ((by first | exact y_pickT rfl rfl | exact y_pickF rfl rfl)) rfl ?_
    refine L_y (y_assign rfl) rfl ?_
    refine L_nil ?_
    refine hK2 _ _ ?_
    refine T_ret ?_
    repeat (first | with_reducible refine up_then ?_ | with_reducible refine up_in ?_)
    refine ret1 rfl rfl ?_
    exact ⟨_, rfl, S0.like0, congrArg Value.bool (by unfold nmOk; simp [q6])⟩


set_option maxRecDepth 100000 in
theorem parts (s : ByteArray) (w0 : World) (hs : s.size ≤ 1000) :
    Calls Try.prog 40 #[.string s] w0 fun e w' => ∃ u, e = .returned u ∧ Like w0 w' ∧ ∃ A' c', u = .slice A' (if s.size = 0 then 0 else cnSl s.data.toList + 1) c' := by
  refine enter1 (env := [(0, .string s)]) [.string s] Try.func40 rfl Try.ntmps40 rfl rfl ?_
  have S0 := St.start w0 noM
  refine T_seq fun K1 hK1 => ?_
  refine T_region ?_
  refine L_y (y_assign rfl) rfl ?_
  refine L_nil ?_
  refine hK1 _ _ ?_
  refine T_seq fun K2 hK2 => ?_
  refine T_region ?_
  have S1 := S0.nilrow 9 1
  refine L_y (y_assign rfl) rfl ?_
  refine L_nil ?_
  refine hK2 _ _ ?_
  refine T_seq fun K3 hK3 => ?_
  refine T_seq fun K4 hK4 => ?_
  refine T_region ?_
  refine L_y (y_move rfl) rfl ?_
  refine L_y (y_seql rfl rfl) rfl ?_
  refine L_nil ?_
  refine hK4 _ _ ?_
  refine T_cond rfl (fun h7 => ?_) (fun h7 => ?_)
  ·
    refine T_seq fun K5 hK5 => ?_
    refine T_region ?_
    refine L_y (y_move rfl) rfl ?_
    refine L_y (y_assign rfl) rfl ?_
    refine L_nil ?_
    refine hK5 _ _ ?_
    refine T_ret ?_
    repeat (first | with_reducible refine up_then ?_ | with_reducible refine up_in ?_)
    refine ret1 rfl rfl ?_
    have hz : s.size = 0 := by rw [h7]; rfl
    exact ⟨_, rfl, S1.like0, none, 0, by rw [if_pos hz]⟩
  ·
    refine T_skip ?_
    refine hK3 _ _ ?_
    refine T_seq fun K6 hK6 => ?_
    refine T_region ?_
    refine L_y (y_assign rfl) rfl ?_
    refine L_nil ?_
    refine hK6 _ _ ?_
    refine T_seq fun K7 hK7 => ?_
    refine T_seq fun K8 hK8 => ?_
    refine T_region ?_
    refine L_y (y_assign rfl) rfl ?_
    refine L_nil ?_
    refine hK8 _ _ ?_
    refine T_block ?_
    refine T_loop5 [(0, _)] (fun (k : Nat) (nw : ByteArray) (A1 : Option Addr) (c1 : Nat) (xs : List Value) => [(3, .slice A1 (cnSl (s.data.toList.take k)) c1), (4, .string nw), (5, .int .i64 (k : Int))]) (fun (k : Nat) (nw : ByteArray) (A1 : Option Addr) (c1 : Nat) (xs : List Value) => s.size - k) (fun (k : Nat) (nw : ByteArray) (A1 : Option Addr) (c1 : Nat) (xs : List Value) (w : World) => (k ≤ s.size ∧ nw.size ≤ k) ∧ St w0 noM [row 9 1 A1 (cnSl (s.data.toList.take k)) c1 xs] w) 0 ⟨#[]⟩ none 0 [] (Sub.cons rfl (by first | rfl | exact congrArg (Value.int _) (by omega)) (Sub.cons rfl (by first | rfl | exact congrArg (Value.int _) (by omega)) (Sub.cons rfl (by first | rfl | exact congrArg (Value.int _) (by omega)) (Sub.nil _)))) (Sub.cons rfl rfl (Sub.nil _)) ?_ ?_
    ·
      exact ⟨⟨Nat.zero_le _, Nat.le_refl _⟩, S1⟩
    ·
      intro k nw A1 c1 xs w2 hrel
      obtain ⟨⟨hk, hnw⟩, S2⟩ := hrel
      have hcl := cn_le (s.data.toList.take k)
      rw [List.length_take, size_toList] at hcl
      have hex : (s.extract k (k + 1)).size ≤ 1 := by rw [ByteArray.size_extract]; omega
      refine T_seq fun K9 hK9 => ?_
      refine T_seq fun K10 hK10 => ?_
      refine T_region ?_
      refine L_y (y_move rfl) rfl ?_
      refine L_y (y_move rfl) rfl ?_
      refine L_y (y_lens Try.underlying9 rfl) rfl ?_
      refine L_y (y_lss rfl rfl) rfl ?_
      refine L_nil ?_
      refine hK10 _ _ ?_
      refine T_cond rfl (fun h12 => ?_) (fun h12 => ?_)
      ·
        refine T_skip ?_
        refine hK9 _ _ ?_
        refine T_seq fun K11 hK11 => ?_
        refine T_block ?_
        refine T_seq fun K12 hK12 => ?_
        refine T_region ?_
        refine L_y (y_move rfl) rfl ?_
        refine L_y (y_move rfl) rfl ?_
        refine L_y (y_idxS Try.underlying9 rfl rfl inferInstance (by omega)) rfl ?_
        refine L_y (y_eql rfl rfl) rfl ?_
        refine L_nil ?_
        refine hK12 _ _ ?_
        refine T_cond rfl (fun h18 => ?_) (fun h18 => ?_)
        ·
          refine T_seq fun K13 hK13 => ?_
          refine T_region ?_
          refine L_y (y_move rfl) rfl ?_
          refine L_y (y_move rfl) rfl ?_
          refine L_o (o_bsl [_] te44 zz9 S2 rfl rfl rfl rfl rfl rfl rfl rfl fun b3 w3 S3 => ?_)
          refine L_o (o_app te44 S3 0 rfl rfl rfl (by first | exact S3.row 0 rfl | exact S3.row 1 rfl) (by first | exact bL_one _ | exact iL_one _ | (intro u hu; simp at hu; subst hu; rfl) | (simp; done) | (simp [Value.oneCell']; done)) rfl (by omega) (by omega) fun A4 c4 w4 S4 => ?_)
          have S4d := S4.drop (rs' := [_]) (.cons_cons _ (.cons _ (.refl _)))
          refine L_y (y_assign rfl) rfl ?_
          refine L_nil ?_
          refine hK13 _ _ ?_
          refine T_region ?_
          refine L_y (y_assign rfl) rfl ?_
          refine L_nil ?_
          refine hK11 _ _ ?_
          refine T_region ?_
          refine L_y (y_move rfl) rfl ?_
          refine L_y (y_add rfl rfl (i64w (by omega))) rfl ?_
          refine L_y (y_assign rfl) rfl ?_
          refine L_nil ?_
          have hcs := cn_step (l := s.data.toList) (k := k) (by rw [size_toList]; omega)
          rw [if_pos (by omega)] at hcs
          refine ⟨k + 1, ⟨#[]⟩, A4, c4, _, by omega, ⟨⟨by omega, by show 0 ≤ _; omega⟩, by rw [hcs]; exact S4d⟩, ?_⟩
          exact (Sub.cons rfl (by first | (rw [hcs]; rfl) | (rw [hcs, Nat.add_zero])) (Sub.cons rfl (by first | rfl | exact congrArg (Value.int _) (by omega)) (Sub.cons rfl (by first | rfl | exact congrArg (Value.int _) (by omega)) (Sub.cons rfl rfl (Sub.nil _)))))
        ·
          refine T_region ?_
          refine L_y (y_move rfl) rfl ?_
          refine L_y (y_move rfl) rfl ?_
          refine L_y (y_move rfl) rfl ?_
          refine L_y (y_move rfl) rfl ?_
          refine L_y (y_add rfl rfl (i64w (by omega))) rfl ?_
          refine L_y (y_sslice Try.underlying9 rfl rfl rfl inferInstance inferInstance (by omega) (by omega)) rfl ?_
          refine L_y (y_cat rfl rfl (by omega)) rfl ?_
          refine L_y (y_assign rfl) rfl ?_
          refine L_nil ?_
          refine hK11 _ _ ?_
          refine T_region ?_
          refine L_y (y_move rfl) rfl ?_
          refine L_y (y_add rfl rfl (i64w (by omega))) rfl ?_
          refine L_y (y_assign rfl) rfl ?_
          refine L_nil ?_
          have hcs := cn_step (l := s.data.toList) (k := k) (by rw [size_toList]; omega)
          rw [if_neg (by omega)] at hcs
          refine ⟨k + 1, nw ++ s.extract k (k + 1), A1, c1, xs, by omega, ⟨⟨by omega, by rw [ByteArray.size_append]; omega⟩, by rw [hcs]; exact S2⟩, ?_⟩
          exact (Sub.cons rfl (by first | (rw [hcs]; rfl) | (rw [hcs, Nat.add_zero])) (Sub.cons rfl (by first | rfl | exact congrArg (Value.int _) (by omega)) (Sub.cons rfl (by first | rfl | exact congrArg (Value.int _) (by omega)) (Sub.cons rfl rfl (Sub.nil _)))))
      ·
        refine T_exit ?_
        refine hK7 _ _ ?_
        refine T_seq fun K14 hK14 => ?_
        refine T_region ?_
        refine L_y (y_move rfl) rfl ?_
        refine L_y (y_move rfl) rfl ?_
        refine L_o (o_bsl [_] te44 zz9 S2 rfl rfl rfl rfl rfl rfl rfl rfl fun b5 w5 S5 => ?_)
        refine L_o (o_app te44 S5 0 rfl rfl rfl (by first | exact S5.row 0 rfl | exact S5.row 1 rfl) (by first | exact bL_one _ | exact iL_one _ | (intro u hu; simp at hu; subst hu; rfl) | (simp; done) | (simp [Value.oneCell']; done)) rfl (by omega) (by omega) fun A6 c6 w6 S6 => ?_)
        have S6d := S6.drop (rs' := [_]) (.cons_cons _ (.cons _ (.refl _)))
        refine L_y (y_assign rfl) rfl ?_
        refine L_nil ?_
        refine hK14 _ _ ?_
        refine T_ret ?_
        repeat (first | with_reducible refine up_then ?_ | with_reducible refine up_in ?_)
        refine ret1 rfl rfl ?_
        have hz : ¬ s.size = 0 := fun e => h7 (by apply ByteArray.ext; exact Array.eq_empty_of_size_eq_zero e)
        have hkn : k = s.size := by omega
        rw [List.take_of_length_le (by rw [size_toList]; omega)] at *
        exact ⟨_, rfl, S6d.like0, _, _, by rw [if_neg hz]⟩
end Go.Proofs.Ytmgimcdkeelnpaa
