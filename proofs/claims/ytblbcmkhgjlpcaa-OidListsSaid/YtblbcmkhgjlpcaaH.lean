/-
  OidBack: the walk.
-/
import Derived.Test.YtblbcmkhgjlpcaaG
import Derived.Test.YtblbcmkhgjlpcaaZm
namespace Go.Proofs.Ytblbcmkhgjlpcaa
open Go.RowKit Zk
set_option linter.unusedVariables false

theorem isD_hexD (n : Nat) (h : n < 16) : isD (hexD n) = true := by
  simp [isD, worth_hexD n h]
theorem dN_hexD (n : Nat) (h : n < 16) : dN (hexD n) = n := by
  simp [dN, worth_hexD n h]
theorem hexL_get (z : List UInt8) : ∀ k, k < 2 * z.length → ∃ n, n < 16 ∧ (hexL z)[k]? = some (hexD n) ∧ ∀ c, z[k / 2]? = some c → n = if k % 2 = 0 then c.toNat / 16 else c.toNat % 16 := by
  induction z with
  | nil => intro k h; simp at h
  | cons c z ih =>
    intro k h
    match k with
    | 0 => exact ⟨c.toNat / 16, by have := c.toNat_lt; omega, by simp [hexL], fun d hd => by simp at hd; subst hd; simp⟩
    | 1 => exact ⟨c.toNat % 16, by omega, by simp [hexL], fun d hd => by simp at hd; subst hd; simp⟩
    | k + 2 =>
      obtain ⟨n, h1, h2, h3⟩ := ih k (by simp at h; omega)
      refine ⟨n, h1, by simpa [hexL] using h2, fun d hd => ?_⟩
      have e : (k + 2) / 2 = k / 2 + 1 := by omega
      rw [e, List.getElem?_cons_succ] at hd
      have := h3 d hd
      rw [this]
      have e2 : (k + 2) % 2 = k % 2 := by omega
      rw [e2]
theorem okS_hexL (z : List UInt8) : okS (hexL z) = true := by
  simp only [okS, List.all_eq_true]
  intro x hx
  obtain ⟨k, hk⟩ := List.getElem?_of_mem hx
  have hl : k < (hexL z).length := (List.getElem?_eq_some_iff.1 hk).1
  rw [length_hexL] at hl
  obtain ⟨n, h1, h2, _⟩ := hexL_get z k hl
  rw [h2] at hk
  cases hk
  exact isD_hexD n h1
theorem idOf_hexL (z : List UInt8) (h : z.length = 32) : idOf (hexL z) = z := by
  apply List.ext_getElem?
  intro j
  by_cases hj : j < 32
  · have hz : z[j]? = some (z[j]'(by omega)) := List.getElem?_eq_getElem _
    rw [idOf_get _ _ hj, hz]
    obtain ⟨n, h1, h2, h3⟩ := hexL_get z (2 * j) (by omega)
    obtain ⟨m, g1, g2, g3⟩ := hexL_get z (2 * j + 1) (by omega)
    have e1 : 2 * j / 2 = j := by omega
    have e2 : (2 * j + 1) / 2 = j := by omega
    rw [e1] at h3
    rw [e2] at g3
    have a1 := h3 _ hz
    have a2 := g3 _ hz
    rw [if_pos (by omega)] at a1
    rw [if_neg (by omega)] at a2
    rw [dg_at _ _ _ h2, dg_at _ _ _ g2, dN_hexD n h1, dN_hexD m g1]
    congr 1
    apply UInt8.toNat_inj.1
    have := (z[j]'(by omega)).toNat_lt
    rw [toNat_ofNat _ (by omega)]
    omega
  · rw [List.getElem?_eq_none (by simp; omega), List.getElem?_eq_none (by omega)]
theorem read_hex (z : List UInt8) (h : z.length = 32) : readR (hexL z) = (z, 0) := by
  have hl : (hexL z).length = 64 := by rw [length_hexL, h]
  unfold readR beginR
  rw [if_pos hl, if_neg (by omega), if_pos (okS_hexL z), idOf_hexL z h]
theorem hex_read (s : List UInt8) (h : (readR s).2 = 0) : hexL (readR s).1 = s := by
  unfold readR at h ⊢
  by_cases hl : s.length = 64
  · rw [if_pos hl] at h ⊢
    unfold beginR at h ⊢
    rw [if_neg (by omega)] at h ⊢
    by_cases ho : okS s = true
    · rw [if_pos ho] at h ⊢
      apply List.ext_getElem?
      intro k
      by_cases hk : k < 64
      · obtain ⟨n, h1, h2, h3⟩ := hexL_get (idOf s) k (by simp; omega)
        have hs : s[k]? = some (s[k]'(by omega)) := List.getElem?_eq_getElem _
        show (hexL (idOf s))[k]? = s[k]?
        rw [h2, hs]
        have h4 := h3 _ (idOf_get s (k / 2) (by omega))
        have hd1 := dg_lt s (2 * (k / 2))
        have hd2 := dg_lt s (2 * (k / 2) + 1)
        rw [toNat_ofNat _ (by omega)] at h4
        have hc : isD (s[k]'(by omega)) = true := by
          simp only [okS, List.all_eq_true] at ho
          exact ho _ (List.getElem_mem _)
        have hw := worth_of _ _ (worth_dN _ hc)
        have hdk := dg_at s k _ hs
        congr 1
        rw [hw.1]
        congr 1
        rcases Nat.mod_two_eq_zero_or_one k with hp | hp
        · have e : 2 * (k / 2) = k := by omega
          rw [if_pos hp] at h4
          have h5 : dg s (2 * (k / 2)) = dN (s[k]'(by omega)) := by rw [e]; exact hdk
          have := dN_lt (s[k]'(by omega))
          omega
        · have e : 2 * (k / 2) + 1 = k := by omega
          rw [if_neg (by omega)] at h4
          have h5 : dg s (2 * (k / 2) + 1) = dN (s[k]'(by omega)) := by rw [e]; exact hdk
          have := dN_lt (s[k]'(by omega))
          omega
      · rw [List.getElem?_eq_none (by rw [length_hexL]; simp; omega), List.getElem?_eq_none (by omega)]
    · rw [if_neg ho] at h
      cases h
  · rw [if_neg hl] at h
    cases h
theorem length_readR (s : List UInt8) : (readR s).1.length = 32 := by
  unfold readR
  split
  · exact length_beginR s
  · rfl

theorem hex_read_c (s : ByteArray) (h : (readR s.data.toList).2 = 0) (w : World) : Calls Try.prog 13 #[.agg (bA (readR s.data.toList).1)] w fun e w' => e = .returned (.string s) ∧ Below w.heap.size w w' := by
  have := hex_any (readR s.data.toList).1 w (length_readR _)
  rw [hex_read _ h] at this
  exact this
theorem read_hex_c (z : List UInt8) (h : z.length = 32) (w : World) : Calls Try.prog 9 #[.string ⟨(hexL z).toArray⟩] w fun e w' => e = .returned (.tuple #[.agg (bA z), .int .i64 0]) ∧ Below w.heap.size w w' := by
  have := read_any ⟨(hexL z).toArray⟩ w
  have e : (⟨(hexL z).toArray⟩ : ByteArray).data.toList = hexL z := rfl
  rw [e, read_hex z h] at this
  exact this

set_option maxHeartbeats 1000000 in
theorem back_walk (z : List UInt8) (s : ByteArray) (w : World) (h0 : z.length = 32) :
    Calls Try.prog 4 #[.agg (bA z), .string s] w fun e w' => e = .returned (.bool true) ∧ Below w.heap.size w w' := by
  have H0 := Lib.hid h0
  clear h0
  have hg23 := guard23
  have hne : ∀ W, (binOp .neq 23 (.agg (bA z)) (.agg (bA z))).run Try.prog W = .ok (.bool false) W := fun W => by
    rw [run_neq_bytes (P := Try.prog) Try.underlying23 Try.underlying5 size5 z z H0.out H0.out W]
    simp
  have heq : ∀ W, (Op.equalIn 10000 23 (.agg (bA z)) (.agg (bA z))).run Try.prog W = .ok true W := fun W => by
    rw [run_equalIn_bytes W 9998 (P := Try.prog) Try.underlying23 Try.underlying5 size5 z z H0.out H0.out _ _ (bA_get z) (bA_get z)]
    simp
  by_cases hf : (readR s.data.toList).2 = 0
  · have HF := Lib.hid hf
    have hrd : ∀ W, Calls Try.prog 9 #[.string s] W fun e w' => e = .returned (.tuple #[.agg (bA (readR s.data.toList).1), .int .i64 0]) ∧ Below W.heap.size W w' := fun W => by
      have := read_any s W
      rwa [hf] at this
    have HRD := Lib.hid hrd
    clear hf hrd
    go_enter Try.func4, Try.ntmps4
    go_wp2_with (first
      | ((with_reducible refine at_dst 2 ?_); refine wpList_bxB rfl 23 _ rfl (bA z) rfl ?_; intro w1 hb1 hg1)
      | ((with_reducible refine at_dst 10 ?_); refine wpList_load_row rfl 23 _ rfl w.heap.size rfl 23 _ (0,0) _ hb1 Try.underlying23 rfl (size23A _ H0.out) ?_))
    refine (hex_any z w1 H0.out).mono ?_
    rintro e w2 ⟨rfl, hB2⟩
    go_wp2_with fail
    refine (read_hex_c z H0.out w2).mono ?_
    rintro e w3 ⟨rfl, hB3⟩
    go_wp2_with (first
      | ((with_reducible refine at_dst 5 ?_); refine wpList_alB rfl 23 rfl _ zero23 ?_; intro w4 hb4 hg4)
      | ((with_reducible refine at_store 13 ?_); refine wpList_stW rfl 23 _ _ rfl w3.heap.size rfl (bA z) rfl 23 (bA z32) hb4 (size23A _ H0.out) (bA_z32 _ H0.out) (bL_one _) ?_; intro w5 hb5 hg5; have hz5 := (((hb1.below hB2 hb1.lt).below hB3 (Nat.lt_of_lt_of_le hb1.lt hB2.size)).grown hg4 (by simp)).grown hg5 (by have := hb1.lt; have := hB2.size; have := hB3.size; simp; omega))
      | ((with_reducible refine at_dst 15 ?_); refine wpList_load_row rfl 23 _ rfl w3.heap.size rfl 23 _ (0,0) _ hb5 Try.underlying23 rfl (size23A _ H0.out) ?_)
      | ((with_reducible refine at_dst 16 ?_); refine wpList_load_row rfl 23 _ rfl w.heap.size rfl 23 _ (0,0) _ hz5 Try.underlying23 rfl (size23A _ H0.out) ?_))
    refine (HRD.out w5).mono ?_
    rintro e w6 ⟨rfl, hB6⟩
    go_wp2_with (first
      | ((with_reducible refine at_dst 7 ?_); refine wpList_alB rfl 23 rfl _ zero23 ?_; intro w7 hb7 hg7)
      | ((with_reducible refine at_store 25 ?_); refine wpList_stW rfl 23 _ _ rfl w6.heap.size rfl (bA (readR s.data.toList).1) rfl 23 (bA z32) hb7 (size23A _ (length_readR _)) (bA_z32 _ (length_readR _)) (bL_one _) ?_; intro w8 hb8 hg8)
      | ((with_reducible refine at_dst 30 ?_); refine wpList_ldG (by rfl) 23 _ rfl w6.heap.size 0 rfl 23 _ hb8 (bA (readR s.data.toList).1).toList (whole_take _) _ Try.underlying23 rfl (size23T _ (length_readR _)) ?_; simp only [Array.toArray_toList]))
    refine (hex_read_c s HF.out w8).mono ?_
    rintro e w9 ⟨rfl, hB9⟩
    go_wp2_with fail
    refine (works_any w9).mono ?_
    rintro e w10 ⟨rfl, hB10⟩
    go_wp2_with fail
    go_ret
    have hB3' := bT (bT (bN (Below.refl _ w) hg1) hB2) hB3
    have hB5' := bS (bN hB3' hg4) hg5 hB3'.size
    have hB6' := bT hB5' hB6
    have hB8' := bS (bN hB6' hg7) hg8 hB6'.size
    exact ⟨rfl, bT (bT hB8' hB9) hB10⟩
  · have hne2 : ((readR s.data.toList).2 != 0) = true := by rw [bne_iff_ne]; exact hf
    have hrd := fun W => read_any s W
    have HRD := Lib.hid hrd
    clear hf hrd
    go_enter Try.func4, Try.ntmps4
    go_wp2_with (first
      | ((with_reducible refine at_dst 2 ?_); refine wpList_bxB rfl 23 _ rfl (bA z) rfl ?_; intro w1 hb1 hg1)
      | ((with_reducible refine at_dst 10 ?_); refine wpList_load_row rfl 23 _ rfl w.heap.size rfl 23 _ (0,0) _ hb1 Try.underlying23 rfl (size23A _ H0.out) ?_))
    refine (hex_any z w1 H0.out).mono ?_
    rintro e w2 ⟨rfl, hB2⟩
    go_wp2_with fail
    refine (read_hex_c z H0.out w2).mono ?_
    rintro e w3 ⟨rfl, hB3⟩
    go_wp2_with (first
      | ((with_reducible refine at_dst 5 ?_); refine wpList_alB rfl 23 rfl _ zero23 ?_; intro w4 hb4 hg4)
      | ((with_reducible refine at_store 13 ?_); refine wpList_stW rfl 23 _ _ rfl w3.heap.size rfl (bA z) rfl 23 (bA z32) hb4 (size23A _ H0.out) (bA_z32 _ H0.out) (bL_one _) ?_; intro w5 hb5 hg5; have hz5 := (((hb1.below hB2 hb1.lt).below hB3 (Nat.lt_of_lt_of_le hb1.lt hB2.size)).grown hg4 (by simp)).grown hg5 (by have := hb1.lt; have := hB2.size; have := hB3.size; simp; omega))
      | ((with_reducible refine at_dst 15 ?_); refine wpList_load_row rfl 23 _ rfl w3.heap.size rfl 23 _ (0,0) _ hb5 Try.underlying23 rfl (size23A _ H0.out) ?_)
      | ((with_reducible refine at_dst 16 ?_); refine wpList_load_row rfl 23 _ rfl w.heap.size rfl 23 _ (0,0) _ hz5 Try.underlying23 rfl (size23A _ H0.out) ?_))
    refine (HRD.out w5).mono ?_
    rintro e w6 ⟨rfl, hB6⟩
    go_wp2_with (first
      | ((with_reducible refine at_dst 7 ?_); refine wpList_alB rfl 23 rfl _ zero23 ?_; intro w7 hb7 hg7)
      | ((with_reducible refine at_store 25 ?_); refine wpList_stW rfl 23 _ _ rfl w6.heap.size rfl (bA (readR s.data.toList).1) rfl 23 (bA z32) hb7 (size23A _ (length_readR _)) (bA_z32 _ (length_readR _)) (bL_one _) ?_; intro w8 hb8 hg8))
    refine (works_any w8).mono ?_
    rintro e w9 ⟨rfl, hB9⟩
    go_wp2_with fail
    go_ret
    have hB3' := bT (bT (bN (Below.refl _ w) hg1) hB2) hB3
    have hB5' := bS (bN hB3' hg4) hg5 hB3'.size
    have hB6' := bT hB5' hB6
    have hB8' := bS (bN hB6' hg7) hg8 hB6'.size
    exact ⟨rfl, bT hB8' hB9⟩
end Go.Proofs.Ytblbcmkhgjlpcaa
