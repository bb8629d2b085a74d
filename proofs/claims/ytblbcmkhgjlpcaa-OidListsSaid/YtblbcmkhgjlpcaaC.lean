/-
  The reference's Begin and Read; Read of package oid.
-/
import Derived.Test.YtblbcmkhgjlpcaaB
namespace Go.Proofs.Ytblbcmkhgjlpcaa
open Go.RowKit Zk
set_option linter.unusedVariables false

theorem hexString_get (n : Nat) (h : n < 16) : ([48, 49, 50, 51, 52, 53, 54, 55, 56, 57, 97, 98, 99, 100, 101, 102] : List UInt8)[n]? = some (hexD n) := by
  match n, h with
  | 0, _ => rfl
  | 1, _ => rfl
  | 2, _ => rfl
  | 3, _ => rfl
  | 4, _ => rfl
  | 5, _ => rfl
  | 6, _ => rfl
  | 7, _ => rfl
  | 8, _ => rfl
  | 9, _ => rfl
  | 10, _ => rfl
  | 11, _ => rfl
  | 12, _ => rfl
  | 13, _ => rfl
  | 14, _ => rfl
  | 15, _ => rfl
  | n + 16, h => exact absurd h (by omega)
theorem worth_hexD (n : Nat) (h : n < 16) : worthZ ((hexD n).toNat : Int) = n := by
  match n, h with
  | 0, _ => rfl
  | 1, _ => rfl
  | 2, _ => rfl
  | 3, _ => rfl
  | 4, _ => rfl
  | 5, _ => rfl
  | 6, _ => rfl
  | 7, _ => rfl
  | 8, _ => rfl
  | 9, _ => rfl
  | 10, _ => rfl
  | 11, _ => rfl
  | 12, _ => rfl
  | 13, _ => rfl
  | 14, _ => rfl
  | 15, _ => rfl
  | n + 16, h => exact absurd h (by omega)
theorem worth_of (c : UInt8) (n : Nat) (h : worthZ (c.toNat : Int) = n) : c = hexD n ∧ n < 16 := by
  unfold worthZ at h
  have hc := c.toNat_lt
  split at h
  · have hn : n = c.toNat - 48 := by omega
    refine ⟨?_, by omega⟩
    apply UInt8.toNat_inj.1
    unfold hexD
    rw [if_pos (by omega), toNat_ofNat _ (by omega)]
    omega
  · split at h
    · have hn : n = c.toNat - 87 := by omega
      refine ⟨?_, by omega⟩
      apply UInt8.toNat_inj.1
      unfold hexD
      rw [if_neg (by omega), toNat_ofNat _ (by omega)]
      omega
    · omega

set_option maxHeartbeats 400000 in
theorem rworth_any (c : UInt8) (w : World) :
    Calls Try.prog 34 #[.int .u8 (c.toNat : Int)] w fun e w' => e = .returned (.int .i64 (worthZ (c.toNat : Int))) ∧ w = w' := by
  go_enter Try.func34, Try.ntmps34
  go_wp2
  go_loop [3] (fun v3 => ∃ k : Nat, k ≤ 16 ∧ v3 = .int .i64 k ∧ ∀ j, j < k → c ≠ hexD j) (fun v3 => 16 - (intOf v3).toNat)
  case atStart => exact ⟨0, by omega, rfl, fun j hj => absurd hj (by omega)⟩
  case round =>
    obtain ⟨k, hk, rfl, hn⟩ := hrel
    have HN := Lib.hid hn
    clear hn
    by_cases hlt : k < 16
    · have hix := fun W => run_index_str (P := Try.prog) Try.underlying9 { data := #[48, 49, 50, 51, 52, 53, 54, 55, 56, 57, 97, 98, 99, 100, 101, 102] } k (hexD k) (by simpa using hexString_get k hlt) .i64 W
      have hcl := toNat_le c
      by_cases he : c = hexD k
      · have heq : (((hexD k).toNat : Int) == (c.toNat : Int)) = true := by rw [he]; simp
        have hwd := worth_hexD k hlt
        have HE := Lib.hid he
        have HW := Lib.hid hwd
        clear he hwd
        go_wp2
        go_ret
        exact ⟨ret_int (by rw [HE.out, HW.out]), rfl⟩
      · have heq : (((hexD k).toNat : Int) == (c.toNat : Int)) = false := by
          rw [beq_eq_false_iff_ne]
          intro h
          exact he (UInt8.toNat_inj.1 (by omega))
        have HE := Lib.hid he
        clear he
        go_wp2
        go_round
        case rel => exact ⟨k + 1, by omega, by go_num, fun j hj => by
          rcases Nat.lt_or_ge j k with h | h
          · exact HN.out j h
          · obtain rfl : j = k := by omega
            exact HE.out⟩
        case measure => simp [intOf]; omega
    · obtain rfl : k = 16 := by omega
      have hw : worthZ (c.toNat : Int) = -1 := by
        by_cases h : isD c = true
        · exact absurd (worth_of c (dN c) (worth_dN c h)).1 (HN.out _ (dN_lt c))
        · exact worth_no c (by simpa using h)
      have HW := Lib.hid hw
      clear hw
      go_wp2
      go_ret
      exact ⟨ret_int HW.out.symm, rfl⟩

set_option maxHeartbeats 400000 in
theorem rbegin_long (s : ByteArray) (w : World) (h : 64 < s.size) :
    Calls Try.prog 12 #[.string s] w fun e w' => e = .returned (.tuple #[.agg (bA z32), .int .i64 0, .int .i64 3]) ∧ Below w.heap.size w w' := by
  go_enter Try.func12, Try.ntmps12
  go_wp2_with (first
    | (refine wpList_alB (o := ⟨some 2, _, _, _, _, _⟩) rfl 23 rfl _ zero23 ?_; intro w1 hb1 hg1)
    | (refine wpList_alB (o := ⟨some 5, _, _, _, _, _⟩) rfl 23 rfl _ zero23 ?_; intro w2 hb2 hg2)
    | (refine wpList_stW rfl 23 _ _ rfl w.heap.size rfl (bA z32) rfl 23 (bA z32) (hb1.grown hg2 (by simp)) size23 (by rfl) (bL_one _) ?_; intro w3 hb3 hg3))
  refine bodyPost_ret (resB_tt rfl _ rfl hb3 _ Try.underlying23 rfl size23) rfl ⟨rfl, ?_⟩
  exact (((Below.refl _ _).grown hg1 (Nat.le_refl _) (by simp)).grown hg2 hg1.size (by simp)).grown hg3 (Nat.le_trans hg1.size hg2.size) (by simp)

theorem bA_set (z : List UInt8) (j : Nat) (c : UInt8) : (bA z).setIfInBounds j (.int .u8 (c.toNat : Int)) = bA (z.set j c) := by
  simp only [bA, bL, List.setIfInBounds_toArray, List.map_set]
  rfl

set_option maxHeartbeats 400000 in
theorem rbegin_short (s : ByteArray) (w : World) (h : s.size ≤ 64) :
    Calls Try.prog 12 #[.string s] w fun e w' => ((okS s.data.toList = true ∧ e = .returned (.tuple #[.agg (bA (idOf s.data.toList)), .int .i64 s.size, .int .i64 0])) ∨ (okS s.data.toList = false ∧ e = .returned (.tuple #[.agg (bA z32), .int .i64 0, .int .i64 14]))) ∧ Below w.heap.size w w' := by
  go_enter Try.func12, Try.ntmps12
  go_wp2_with (first
    | (refine wpList_alB (o := ⟨some 2, _, _, _, _, _⟩) rfl 23 rfl _ zero23 ?_; intro w1 hb1 hg1)
    | (refine wpList_alB (o := ⟨some 5, _, _, _, _, _⟩) rfl 23 rfl _ zero23 ?_; intro w2 hb2 hg2))
  have hB2 : Below w.heap.size w w2 := ((Below.refl _ _).grown hg1 (Nat.le_refl _) (by simp)).grown hg2 hg1.size (by simp)
  have hlt1 : w.heap.size < w1.heap.size := hb1.lt
  have hr2 : Blk w2 w.heap.size 23 (bA z32) := hb1.grown hg2 (by simp)
  go_loopw [6] (fun v6 wr => ∃ k : Nat, k ≤ s.size ∧ v6 = .int .i64 k ∧ okS (s.data.toList.take k) = true ∧ Blk wr w.heap.size 23 (bA z32) ∧ Blk wr w1.heap.size 23 (bA (idOf (s.data.toList.take k))) ∧ Below w.heap.size w wr) (fun v6 _ => s.size - (intOf v6).toNat)
  case atStart => exact ⟨0, by omega, rfl, rfl, hr2, hb2, hB2⟩
  case round =>
    obtain ⟨k, hk, rfl, hok, hr, hbk, hB⟩ := hrel
    have HK := Lib.hid hok
    clear hok
    by_cases hlt : k < s.size
    · obtain ⟨c, hc⟩ : ∃ c, s.data.toList[k]? = some c := ⟨s.data.toList[k]'(by rw [size_toList]; exact hlt), List.getElem?_eq_getElem _⟩
      have hix := run_index_str Try.underlying9 s k c hc .i64
      have hcl := toNat_le c
      by_cases hd : isD c = true
      · have hw := worth_dN c hd
        have hdl := dN_lt c
        have hok2 : okS (s.data.toList.take (k + 1)) = true := by rw [okS_snoc _ k c hc, HK.out, hd]; rfl
        have HO2 := Lib.hid hok2
        have HW := Lib.hid hw
        have HD := Lib.hid hd
        clear hok2 hw hd
        by_cases hp : k % 2 = 0
        · obtain ⟨_, h1, h2⟩ := idOf_even _ k c hc hp
          have hget := bA_get (idOf (s.data.toList.take k)) (k / 2) 0 (h2 (by omega))
          have hcell := (hbk.cell (k / 2)).trans hget
          have hfr := hbk.frozen (k / 2)
          have hp' : (k : Int) % 2 = 0 := by omega
          have H1 := Lib.hid h1
          have HC := Lib.hid hc
          clear h1 h2 hget hc hp
          go_wp2_with (go_at_call 34; refine (rworth_any _ _).mono ?_; rw [HW.out]; rintro e w' ⟨rfl, rfl⟩)
          go_roundw
          case rel => exact ⟨k + 1, by omega, by go_num, HO2.out, hr.far (by simp; omega) _, by rw [show ((dN c : Int) * 16) = ((UInt8.ofNat (16 * dN c)).toNat : Int) by rw [toNat_ofNat _ (by omega)]; omega, H1.out, ← bA_set]; exact hbk.set_ _ _, hB.setCell (by simp; omega) _⟩
          case measure => simp [intOf]; omega
        · have hp1 : k % 2 = 1 := by omega
          obtain ⟨h1, h2⟩ := idOf_odd _ k c hc hp1
          have hget := bA_get (idOf (s.data.toList.take k)) (k / 2) _ (h2 (by omega))
          have hdl2 := dg_lt s.data.toList (k - 1)
          have hcell := (hbk.cell (k / 2)).trans hget
          have hfr := hbk.frozen (k / 2)
          have hp' : (k : Int) % 2 = 1 := by omega
          have H1 := Lib.hid h1
          have HC := Lib.hid hc
          clear h1 h2 hget hc hp hp1
          have hol : (UInt8.ofNat (16 * dg s.data.toList (k - 1))).toNat ≤ 240 := by rw [toNat_ofNat _ (by omega)]; omega
          generalize hold : UInt8.ofNat (16 * dg s.data.toList (k - 1)) = old at hcell hol
          have HOL := Lib.hid hold
          clear hold
          go_wp2_with (go_at_call 34; refine (rworth_any _ _).mono ?_; rw [HW.out]; rintro e w' ⟨rfl, rfl⟩)
          go_roundw
          case rel => exact ⟨k + 1, by omega, by go_num, HO2.out, hr.far (by simp; omega) _, by rw [← HOL.out, show (((UInt8.ofNat (16 * dg s.data.toList (k - 1))).toNat : Int) + (dN c : Int)) = ((UInt8.ofNat (16 * dg s.data.toList (k - 1) + dN c)).toNat : Int) by rw [toNat_ofNat _ (by omega), toNat_ofNat _ (by omega)]; omega, H1.out, ← bA_set]; exact hbk.set_ _ _, hB.setCell (by simp; omega) _⟩
          case measure => simp [intOf]; omega
      · have hd' : isD c = false := by simpa using hd
        have hno := okS_not _ k c hc hd'
        have hw := worth_no c hd'
        have HNO := Lib.hid hno
        have HW := Lib.hid hw
        have HC := Lib.hid hc
        clear hno hw hd hd' hc
        go_wp2_with (first
          | (go_at_call 34; refine (rworth_any _ _).mono ?_; rw [HW.out]; rintro e w' ⟨rfl, rfl⟩)
          | (refine wpList_stW rfl 23 _ _ rfl w.heap.size rfl (bA z32) rfl 23 (bA z32) hr size23 (by rfl) (bL_one _) ?_; intro w4 hb4 hg4))
        refine bodyPost_ret (resB_tt rfl _ rfl hb4 _ Try.underlying23 rfl size23) rfl ⟨.inr ⟨HNO.out, rfl⟩, hB.grown hg4 hB.size (by simp)⟩
    · obtain rfl : k = s.size := by omega
      have ht : s.data.toList.take s.size = s.data.toList := List.take_of_length_le (by rw [size_toList]; omega)
      have HT := Lib.hid ht
      clear ht
      go_wp2_with (first
        | (refine wpList_load_row rfl 23 _ rfl w1.heap.size rfl 23 _ (0,0) _ hbk Try.underlying23 rfl (by simpa using size23) ?_)
        | (refine wpList_stW rfl 23 _ _ rfl w.heap.size rfl _ rfl 23 (bA z32) hr (by simpa using size23) (by simp [z32]) (bL_one _) ?_; intro w4 hb4 hg4))
      refine bodyPost_ret (resB_tt rfl _ rfl hb4 _ Try.underlying23 rfl (by simpa using size23)) rfl ⟨.inl ⟨by rw [← HK.out, HT.out], ?_⟩, hB.grown hg4 hB.size (by simp)⟩
      simp [HT.out]
end Go.Proofs.Ytblbcmkhgjlpcaa
