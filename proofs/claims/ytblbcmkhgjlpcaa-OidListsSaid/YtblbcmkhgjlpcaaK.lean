/-
  Right and Fits of the reference; the walk of OidFits.
-/
import Derived.Test.YtblbcmkhgjlpcaaJ
namespace Go.Proofs.Ytblbcmkhgjlpcaa
open Go.RowKit Zk
set_option linter.unusedVariables false

/-! ### plain words -/
def nibN (z : List UInt8) (k : Nat) : Nat := if k % 2 = 0 then (z.getD (k / 2) 0).toNat / 16 else (z.getD (k / 2) 0).toNat % 16
theorem nib_lt (z : List UInt8) (k : Nat) : nibN z k < 16 := by
  have := (z.getD (k / 2) 0).toNat_lt
  unfold nibN
  split <;> omega
theorem digL_nib (z : List UInt8) : ∀ k, k < 2 * z.length → (digL z)[k]? = some (nibN z k : Int) := by
  induction z with
  | nil => intro k h; simp at h
  | cons c z ih =>
    intro k h
    match k with
    | 0 => simp [digL, nibN]
    | 1 => simp [digL, nibN]
    | k + 2 =>
      have := ih k (by simp at h; omega)
      have e : (k + 2) / 2 = k / 2 + 1 := by omega
      have e2 : (k + 2) % 2 = k % 2 := by omega
      simp only [nibN, e, e2, List.getD_cons_succ]
      simpa [digL, nibN] using this
theorem nib_ext (a b : List UInt8) (ha : a.length = 32) (hb : b.length = 32) (h : ∀ k, k < 64 → nibN a k = nibN b k) : a = b := by
  apply List.ext_getElem (by omega)
  intro i h1 h2
  have x := h (2 * i) (by omega)
  have y := h (2 * i + 1) (by omega)
  have e1 : 2 * i / 2 = i := by omega
  have e2 : (2 * i + 1) / 2 = i := by omega
  simp only [nibN, e1, e2] at x y
  rw [if_pos (by omega), if_pos (by omega)] at x
  rw [if_neg (by omega), if_neg (by omega)] at y
  simp only [List.getD_eq_getElem?_getD, List.getElem?_eq_getElem h1, List.getElem?_eq_getElem h2, Option.getD_some] at x y
  exact UInt8.toNat_inj.1 (by omega)
theorem nib_cut (z : List UInt8) (m k : Nat) (hk : k < 64) : nibN (cutL z m) k = if k < m then nibN z k else 0 := by
  have hg : (cutL z m).getD (k / 2) 0 = if k / 2 < m / 2 then z.getD (k / 2) 0 else if k / 2 = m / 2 ∧ m % 2 = 1 then UInt8.ofNat ((z.getD (k / 2) 0).toNat / 16 * 16) else 0 := by
    rw [List.getD_eq_getElem?_getD, cutL_get z m (k / 2) (by omega)]
    rfl
  have hc := (z.getD (k / 2) 0).toNat_lt
  have e0 : (0 : UInt8).toNat = 0 := rfl
  unfold nibN
  rw [hg]
  by_cases h1 : k / 2 < m / 2
  · rw [if_pos h1, if_pos (show k < m by omega)]
  · rw [if_neg h1]
    by_cases h2 : k / 2 = m / 2 ∧ m % 2 = 1
    · rw [if_pos h2, toNat_ofNat _ (by omega)]
      by_cases hp : k % 2 = 0
      · rw [if_pos hp, if_pos hp, if_pos (by omega)]
        omega
      · rw [if_neg hp, if_neg (by omega)]
        omega
    · rw [if_neg h2, e0]
      have : ¬ k < m := by omega
      rw [if_neg this]
      split <;> rfl
theorem cut_self (z : List UInt8) (m : Nat) (h : z.length = 32) : cutL z m = z ↔ ∀ k, m ≤ k → k < 64 → nibN z k = 0 := by
  constructor
  · intro e k h1 h2
    have := nib_cut z m k h2
    rw [e, if_neg (by omega)] at this
    exact this
  · intro g
    refine nib_ext _ _ (length_cutL _ _) h fun k hk => ?_
    rw [nib_cut z m k hk]
    split
    · rfl
    · exact (g k (by omega) hk).symm
theorem cut_fits (z id : List UInt8) (m : Nat) (h : z.length = 32) (hs : cutL z m = z) : cutL id m = z ↔ ∀ k, k < m → k < 64 → nibN z k = nibN id k := by
  have hz := (cut_self z m h).1 hs
  constructor
  · intro e k h1 h2
    have := nib_cut id m k h2
    rw [e, if_pos h1] at this
    exact this
  · intro g
    refine nib_ext _ _ (length_cutL _ _) h fun k hk => ?_
    rw [nib_cut id m k hk]
    split
    · rename_i h1; exact (g k h1 hk).symm
    · exact (hz k (by omega) hk).symm
theorem right_no (z : List UInt8) (n : Int) (m k : Nat) (h : z.length = 32) (e : n = (m : Int)) (hm : m ≤ k) (hk : k < 64) (hz : nibN z k ≠ 0) : rightB z n = false := by
  subst e
  by_cases hr : rightB z (m : Int) = true
  · simp only [rightB, Bool.and_eq_true, beq_iff_eq, Int.toNat_natCast] at hr
    exact absurd ((cut_self z m h).1 hr.2.2 k hm hk) hz
  · simpa using hr
theorem right_yes (z : List UInt8) (m : Nat) (h : z.length = 32) (hm : m ≤ 64) (hz : ∀ k, m ≤ k → k < 64 → nibN z k = 0) : rightB z (m : Int) = true := by
  have := (cut_self z m h).2 hz
  simp only [rightB, Bool.and_eq_true, beq_iff_eq, Int.toNat_natCast, this, decide_eq_true_eq]
  exact ⟨by omega, by omega, by first | trivial | rfl⟩

/-! ### walks -/
set_option maxHeartbeats 400000 in
theorem rright_any (z : List UInt8) (n : Int) (w : World) (h0 : z.length = 32) :
    Calls Try.prog 17 #[.agg (bA z), .int .i64 n] w fun e w' => e = .returned (.bool (rightB z n)) ∧ Below w.heap.size w w' := by
  have H0 := Lib.hid h0
  clear h0
  by_cases a : 0 ≤ n ∧ n ≤ 64
  · obtain ⟨m, rfl⟩ := Int.eq_ofNat_of_zero_le a.1
    have hm : m ≤ 64 := by omega
    clear a
    go_enter Try.func17, Try.ntmps17
    go_wp2_with (first
      | ((with_reducible refine at_dst 2 ?_); refine wpList_bxB rfl 23 _ rfl (bA z) rfl ?_; intro w1 hb1 hg1)
      | ((with_reducible refine at_dst 13 ?_); refine wpList_load_row rfl 23 _ rfl w.heap.size rfl 23 _ (0,0) _ hb1 Try.underlying23 rfl (size23A _ H0.out) ?_))
    refine (digits_any z w1 H0.out).mono ?_
    rintro e w2 ⟨A, c, rfl, ho, hB2⟩
    obtain ⟨g, cap, hv, hg1', hlt⟩ := ho.form (by omega)
    obtain ⟨rfl, rfl⟩ : A = some ⟨g, 0, none⟩ ∧ c = cap := by injection hv with h1 _ h3; exact ⟨h1, h3⟩
    have hB := bT (bN (Below.refl _ w) hg1) hB2
    go_wp2_with fail
    go_loop [6] (fun v6 => ∃ k : Nat, m ≤ k ∧ k ≤ 64 ∧ v6 = .int .i64 k ∧ Hid (∀ j, m ≤ j → j < k → nibN z j = 0)) (fun v6 => 64 - (intOf v6).toNat)
    case atStart => exact ⟨m, Nat.le_refl _, hm, rfl, fun j h1 h2 => absurd h2 (by omega)⟩
    case round =>
      obtain ⟨k, hk1, hk2, rfl, HK⟩ := hrel
      by_cases hlt : k < 64
      · have hn := nib_lt z k
        have hc : w2.cell? ⟨g, k, none⟩ = some (.int .i64 (nibN z k : Int)) := by
          rw [ho.cellAt k (by omega)]
          exact iL_get _ _ _ (digL_nib z k (by rw [H0.out]; omega))
        have hi : (k : Int) < ((64 : Nat) : Int) := by omega
        generalize hnb : nibN z k = b at hc hn
        have HNB := Lib.hid hnb
        clear hnb
        by_cases hz : b = 0
        · subst hz
          go_wp2
          go_round
          case rel => exact ⟨k + 1, by omega, by omega, by go_num, fun j h1 h2 => by
            rcases Nat.lt_or_ge j k with h | h
            · exact HK.out j h1 h
            · obtain rfl : j = k := by omega
              exact HNB.out⟩
          case measure => simp [intOf]; omega
        · have hne : ((b : Int) != 0) = true := by rw [bne_iff_ne]; omega
          have hr := right_no z m m k H0.out rfl hk1 hlt (by rw [HNB.out]; exact hz)
          have HR := Lib.hid hr
          clear hz hr
          go_wp2
          go_ret
          exact ⟨ret_bool HR.out.symm, hB⟩
      · obtain rfl : k = 64 := by omega
        have hr := right_yes z m H0.out hm (fun j h1 h2 => HK.out j h1 h2)
        have HR := Lib.hid hr
        clear hr
        go_wp2
        go_ret
        exact ⟨ret_bool HR.out.symm, hB⟩
  · have hr : Hid (rightB z n = false) := by
      show _ = _
      rcases Int.lt_or_le n 0 with h | h
      · simp only [rightB, decide_eq_false (show ¬ 0 ≤ n by omega), Bool.false_and]
      · simp only [rightB, decide_eq_false (show ¬ n ≤ 64 by omega), Bool.false_and, Bool.and_false]
    by_cases h : n < 0
    · go_enter Try.func17, Try.ntmps17
      go_wp2_with (first
        | ((with_reducible refine at_dst 2 ?_); refine wpList_bxB rfl 23 _ rfl (bA z) rfl ?_; intro w1 hb1 hg1))
      go_ret
      exact ⟨ret_bool hr.out.symm, bN (Below.refl _ w) hg1⟩
    · have h' : 64 < n := by omega
      go_enter Try.func17, Try.ntmps17
      go_wp2_with (first
        | ((with_reducible refine at_dst 2 ?_); refine wpList_bxB rfl 23 _ rfl (bA z) rfl ?_; intro w1 hb1 hg1))
      go_ret
      exact ⟨ret_bool hr.out.symm, bN (Below.refl _ w) hg1⟩
end Go.Proofs.Ytblbcmkhgjlpcaa
