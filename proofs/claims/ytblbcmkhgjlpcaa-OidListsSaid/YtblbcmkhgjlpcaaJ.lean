/-
  Which id is above: Compare of package oid and of the reference. Right and Fits of the reference.
-/
import Derived.Test.YtblbcmkhgjlpcaaI
namespace Go.Proofs.Ytblbcmkhgjlpcaa
open Go.RowKit Zk
set_option linter.unusedVariables false

/-! ### plain words -/
def belowL : List UInt8 → List UInt8 → Bool
  | x :: xs, y :: ys => if x = y then belowL xs ys else decide (x.toNat < y.toNat)
  | _, _ => false
def cmpL (a b : List UInt8) : Int := if belowL a b = true then -1 else if belowL b a = true then 1 else 0
theorem belowL_irrefl : ∀ a, belowL a a = false
  | [] => rfl
  | x :: xs => by simp [belowL, belowL_irrefl xs]
theorem belowL_same (x : UInt8) (a b : List UInt8) : belowL (x :: a) (x :: b) = belowL a b := by simp [belowL]
theorem drop_at (a : List UInt8) (k : Nat) (x : UInt8) (h : a[k]? = some x) : a.drop k = x :: a.drop (k + 1) := by
  obtain ⟨hl, he⟩ := List.getElem?_eq_some_iff.1 h
  rw [List.drop_eq_getElem_cons hl, he]
def cmpZ (x y : Int) : Int := if x < y then -1 else if y < x then 1 else 0

set_option maxHeartbeats 400000 in
theorem below_any (a b : List UInt8) (w : World) (ha : a.length = 32) (hb : b.length = 32) :
    Calls Try.prog 38 #[.agg (bA a), .agg (bA b)] w fun e w' => e = .returned (.bool (belowL a b)) ∧ Below w.heap.size w w' := by
  have HA := Lib.hid ha
  have HB := Lib.hid hb
  clear ha hb
  go_enter Try.func38, Try.ntmps38
  go_wp2_with (first
    | ((with_reducible refine at_dst 2 ?_); refine wpList_bxB rfl 23 _ rfl (bA a) rfl ?_; intro w1 hb1 hg1)
    | ((with_reducible refine at_dst 3 ?_); refine wpList_bxB rfl 23 _ rfl (bA b) rfl ?_; intro w2 hb2 hg2))
  have hb1' := hb1.grown hg2 (by simp)
  have c2 := bN (bN (Below.refl _ w) hg1) hg2
  go_loopw [5] (fun v5 wr => ∃ k : Nat, k ≤ 32 ∧ v5 = .int .i64 k ∧ Hid (belowL (a.drop k) (b.drop k) = belowL a b) ∧ Below w2.heap.size w2 wr) (fun v5 _ => 32 - (intOf v5).toNat)
  case atStart => exact ⟨0, by omega, rfl, Lib.hid rfl, Below.refl _ _⟩
  case round =>
    obtain ⟨k, hk, rfl, HS, hBr⟩ := hrel
    by_cases hlt : k < 32
    · obtain ⟨x, hx⟩ : ∃ x, a[k]? = some x := ⟨a[k]'(by rw [HA.out]; exact hlt), List.getElem?_eq_getElem _⟩
      obtain ⟨y, hy⟩ : ∃ y, b[k]? = some y := ⟨b[k]'(by rw [HB.out]; exact hlt), List.getElem?_eq_getElem _⟩
      have hc1 := ((hb1'.below hBr hb1'.lt).cell k).trans (bA_get a k x hx)
      have hc2 := ((hb2.below hBr hb2.lt).cell k).trans (bA_get b k y hy)
      have hk1 : (k : Int) < 32 := by omega
      have HX := Lib.hid hx
      have HY := Lib.hid hy
      clear hx hy
      by_cases hxy : x = y
      · have hne : ((x.toNat : Int) != (y.toNat : Int)) = false := by rw [hxy]; simp
        have hs2 : Hid (belowL (a.drop (k + 1)) (b.drop (k + 1)) = belowL a b) := by
          show _ = _
          have := HS.out
          rw [drop_at a k x HX.out, drop_at b k y HY.out, hxy, belowL_same] at this
          exact this
        clear hxy
        go_wp2_with fail
        go_quiet (fail)
        go_wp2
        go_roundw
        case rel => exact ⟨k + 1, by omega, by go_num, hs2, below_drewN hBr _⟩
        case measure => simp [intOf]; omega
      · have hne : ((x.toNat : Int) != (y.toNat : Int)) = true := by
          rw [bne_iff_ne]
          intro h
          exact hxy (UInt8.toNat_inj.1 (by omega))
        have hres : Hid (belowL a b = decide ((x.toNat : Int) < (y.toNat : Int))) := by
          show _ = _
          have := HS.out
          rw [drop_at a k x HX.out, drop_at b k y HY.out] at this
          rw [← this]
          simp [belowL, hxy]
        clear hxy
        go_wp2_with fail
        go_quiet (fail)
        go_wp2_with fail
        go_quiet (fail)
        go_wp2
        go_ret
        exact ⟨ret_bool (by rw [hres.out]; simp), bT c2 (below_drewN (below_drewN hBr _) _)⟩
    · obtain rfl : k = 32 := by omega
      go_wp2
      go_ret
      refine ⟨ret_bool ?_, bT c2 hBr⟩
      have := HS.out
      rw [List.drop_of_length_le (by rw [HA.out]; omega)] at this
      rw [← this]
      rfl

set_option maxHeartbeats 400000 in
theorem rcompare_any (a b : List UInt8) (w : World) (ha : a.length = 32) (hb : b.length = 32) :
    Calls Try.prog 21 #[.agg (bA a), .agg (bA b)] w fun e w' => e = .returned (.int .i64 (cmpL a b)) ∧ Below w.heap.size w w' := by
  have HA := Lib.hid ha
  have HB := Lib.hid hb
  clear ha hb
  by_cases h1 : belowL a b = true
  · have c1 : ∀ W, Calls Try.prog 38 #[.agg (bA a), .agg (bA b)] W fun e w' => e = .returned (.bool true) ∧ Below W.heap.size W w' := fun W => by
      have := below_any a b W HA.out HB.out
      rwa [h1] at this
    have hr : Hid (cmpL a b = -1) := by show _ = _; simp [cmpL, h1]
    have C1 := Lib.hid c1
    clear h1 c1
    go_enter Try.func21, Try.ntmps21
    go_wp2_with (first
      | ((with_reducible refine at_dst 2 ?_); refine wpList_bxB rfl 23 _ rfl (bA a) rfl ?_; intro w1 hb1 hg1)
      | ((with_reducible refine at_dst 3 ?_); refine wpList_bxB rfl 23 _ rfl (bA b) rfl ?_; intro w2 hb2 hg2; have hb1' := hb1.grown hg2 (by simp))
      | ((with_reducible refine at_dst 5 ?_); refine wpList_load_row rfl 23 _ rfl w.heap.size rfl 23 _ (0,0) _ hb1' Try.underlying23 rfl (size23A _ HA.out) ?_)
      | ((with_reducible refine at_dst 6 ?_); refine wpList_load_row rfl 23 _ rfl w1.heap.size rfl 23 _ (0,0) _ hb2 Try.underlying23 rfl (size23A _ HB.out) ?_))
    refine (C1.out w2).mono ?_
    rintro e w3 ⟨rfl, hB3⟩
    go_wp2
    go_ret
    exact ⟨ret_int hr.out.symm, bT (bN (bN (Below.refl _ w) hg1) hg2) hB3⟩
  · have h1' : belowL a b = false := by simpa using h1
    have c1 : ∀ W, Calls Try.prog 38 #[.agg (bA a), .agg (bA b)] W fun e w' => e = .returned (.bool false) ∧ Below W.heap.size W w' := fun W => by
      have := below_any a b W HA.out HB.out
      rwa [h1'] at this
    have C1 := Lib.hid c1
    have H1 := Lib.hid h1'
    clear h1 h1' c1
    have c2 := fun W => below_any b a W HB.out HA.out
    have C2 := Lib.hid c2
    clear c2
    go_enter Try.func21, Try.ntmps21
    go_wp2_with (first
      | ((with_reducible refine at_dst 2 ?_); refine wpList_bxB rfl 23 _ rfl (bA a) rfl ?_; intro w1 hb1 hg1)
      | ((with_reducible refine at_dst 3 ?_); refine wpList_bxB rfl 23 _ rfl (bA b) rfl ?_; intro w2 hb2 hg2; have hb1' := hb1.grown hg2 (by simp))
      | ((with_reducible refine at_dst 5 ?_); refine wpList_load_row rfl 23 _ rfl w.heap.size rfl 23 _ (0,0) _ hb1' Try.underlying23 rfl (size23A _ HA.out) ?_)
      | ((with_reducible refine at_dst 6 ?_); refine wpList_load_row rfl 23 _ rfl w1.heap.size rfl 23 _ (0,0) _ hb2 Try.underlying23 rfl (size23A _ HB.out) ?_))
    refine (C1.out w2).mono ?_
    rintro e w3 ⟨rfl, hB3⟩
    go_wp2_with (first
      | ((with_reducible refine at_dst 8 ?_); refine wpList_load_row rfl 23 _ rfl w1.heap.size rfl 23 _ (0,0) _ (hb2.below hB3 hb2.lt) Try.underlying23 rfl (size23A _ HB.out) ?_)
      | ((with_reducible refine at_dst 9 ?_); refine wpList_load_row rfl 23 _ rfl w.heap.size rfl 23 _ (0,0) _ (hb1'.below hB3 hb1'.lt) Try.underlying23 rfl (size23A _ HA.out) ?_))
    refine (C2.out w3).mono ?_
    rintro e w4 ⟨rfl, hB4⟩
    have hbe := bT (bT (bN (bN (Below.refl _ w) hg1) hg2) hB3) hB4
    by_cases h2 : belowL b a = true
    · go_wp2
      go_ret
      exact ⟨ret_int (by simp [cmpL, H1.out, h2]), hbe⟩
    · have h2' : belowL b a = false := by simpa using h2
      go_wp2
      go_ret
      exact ⟨ret_int (by simp [cmpL, H1.out, h2']), hbe⟩

theorem nan_any (x : Int) (w : World) : Calls Try.prog 48 #[.int .u8 x] w fun e w' => e = .returned (.bool false) ∧ w = w' := by
  go_enter Try.func48, Try.ntmps48
  go_wp2
  go_ret
  exact ⟨ret_bool (by simp), rfl⟩

set_option maxHeartbeats 400000 in
theorem cmp_any (x y : Int) (w : World) : Calls Try.prog 45 #[.int .u8 x, .int .u8 y] w fun e w' => e = .returned (.int .i64 (cmpZ x y)) ∧ w = w' := by
  by_cases h1 : x < y
  · go_enter Try.func45, Try.ntmps45
    go_wp2_with (go_at_call 48; refine (nan_any _ _).mono ?_; rintro e w' ⟨rfl, rfl⟩)
    go_ret
    exact ⟨ret_int (by simp [cmpZ, h1]), rfl⟩
  · by_cases h2 : y < x
    · go_enter Try.func45, Try.ntmps45
      go_wp2_with (go_at_call 48; refine (nan_any _ _).mono ?_; rintro e w' ⟨rfl, rfl⟩)
      go_ret
      exact ⟨ret_int (by unfold cmpZ; rw [if_neg (by omega), if_pos (by omega)]), rfl⟩
    · go_enter Try.func45, Try.ntmps45
      go_wp2_with (go_at_call 48; refine (nan_any _ _).mono ?_; rintro e w' ⟨rfl, rfl⟩)
      go_ret
      exact ⟨ret_int (by unfold cmpZ; rw [if_neg (by omega), if_neg (by omega)]), rfl⟩

theorem cmpL_at (a b : List UInt8) (k : Nat) (x y : UInt8) (ha : a[k]? = some x) (hb : b[k]? = some y) (h : belowL (a.drop k) (b.drop k) = belowL a b) (h' : belowL (b.drop k) (a.drop k) = belowL b a) (hne : x ≠ y) :
    cmpZ x.toNat y.toNat = cmpL a b ∧ cmpZ x.toNat y.toNat ≠ 0 := by
  rw [drop_at a k x ha, drop_at b k y hb] at h h'
  have hn : x.toNat ≠ y.toNat := fun e => hne (UInt8.toNat_inj.1 e)
  have hne' : ¬ y = x := fun e => hne e.symm
  unfold cmpL cmpZ
  rw [← h, ← h']
  simp only [belowL, hne, hne', if_false, decide_eq_true_eq]
  rcases Nat.lt_or_ge x.toNat y.toNat with h1 | h1
  · rw [if_pos (by omega), if_pos h1]
    exact ⟨rfl, by omega⟩
  · rw [if_neg (by omega), if_pos (by omega), if_neg (by omega), if_pos (by omega)]
    exact ⟨rfl, by omega⟩

set_option maxHeartbeats 400000 in
theorem scompare_any (a b : List UInt8) (g h : Nat) (w : World) (ha : a.length = 32) (hb : b.length = 32) (hbg : Blk w g 23 (bA a)) (hbh : Blk w h 23 (bA b)) :
    Calls Try.prog 37 #[.slice (some ⟨g, 0, none⟩) 32 32, .slice (some ⟨h, 0, none⟩) 32 32] w fun e w' => e = .returned (.int .i64 (cmpL a b)) ∧ w = w' := by
  have HA := Lib.hid ha
  have HB := Lib.hid hb
  clear ha hb
  go_enter Try.func37, Try.ntmps37
  go_wp2_with fail
  go_loop [11] (fun v11 => ∃ k : Nat, k ≤ 32 ∧ v11 = .int .i64 k ∧ Hid (belowL (a.drop k) (b.drop k) = belowL a b) ∧ Hid (belowL (b.drop k) (a.drop k) = belowL b a)) (fun v11 => 32 - (intOf v11).toNat)
  case atStart => exact ⟨0, by omega, rfl, Lib.hid rfl, Lib.hid rfl⟩
  case round =>
    obtain ⟨k, hk, rfl, HS, HT⟩ := hrel
    by_cases hlt : k < 32
    · obtain ⟨x, hx⟩ : ∃ x, a[k]? = some x := ⟨a[k]'(by rw [HA.out]; exact hlt), List.getElem?_eq_getElem _⟩
      obtain ⟨y, hy⟩ : ∃ y, b[k]? = some y := ⟨b[k]'(by rw [HB.out]; exact hlt), List.getElem?_eq_getElem _⟩
      have hc1 := (hbg.cell k).trans (bA_get a k x hx)
      have hc2 := (hbh.cell k).trans (bA_get b k y hy)
      have hk1 : (k : Int) < 32 := by omega
      have HX := Lib.hid hx
      have HY := Lib.hid hy
      clear hx hy
      by_cases hxy : x = y
      · have hz : Hid (cmpZ (x.toNat : Int) (y.toNat : Int) = 0) := by show _ = _; rw [hxy]; unfold cmpZ; rw [if_neg (by omega), if_neg (by omega)]
        have hs2 : Hid (belowL (a.drop (k + 1)) (b.drop (k + 1)) = belowL a b) := by
          show _ = _
          have := HS.out
          rw [drop_at a k x HX.out, drop_at b k y HY.out, hxy, belowL_same] at this
          exact this
        have hs3 : Hid (belowL (b.drop (k + 1)) (a.drop (k + 1)) = belowL b a) := by
          show _ = _
          have := HT.out
          rw [drop_at a k x HX.out, drop_at b k y HY.out, hxy, belowL_same] at this
          exact this
        clear hxy
        go_wp2_with (go_at_call 45; refine (cmp_any _ _ _).mono ?_; rw [hz.out]; rintro e w' ⟨rfl, rfl⟩)
        go_round
        case rel => exact ⟨k + 1, by omega, by go_num, hs2, hs3⟩
        case measure => simp [intOf]; omega
      · obtain ⟨h1, h2⟩ := cmpL_at a b k x y HX.out HY.out HS.out HT.out hxy
        have hz : (cmpZ (x.toNat : Int) (y.toNat : Int) != 0) = true := by rw [bne_iff_ne]; exact h2
        have HR := Lib.hid h1
        clear h1 h2 hxy
        go_wp2_with (go_at_call 45; refine (cmp_any _ _ _).mono ?_; rintro e w' ⟨rfl, rfl⟩)
        go_ret
        exact ⟨ret_int HR.out, rfl⟩
    · obtain rfl : k = 32 := by omega
      go_wp2
      go_ret
      refine ⟨ret_int ?_, rfl⟩
      have h1 := HS.out
      have h2 := HT.out
      rw [List.drop_of_length_le (l := a) (by rw [HA.out]; omega)] at h1
      rw [List.drop_of_length_le (l := b) (by rw [HB.out]; omega)] at h2
      simp [cmpL, ← h1, ← h2, belowL]

theorem slice23all (g : Nat) (W : World) : (Instr.sliceAt 23 (.pointer (some ⟨g, 0, none⟩)) none none none).run Try.prog W = .ok (.slice (some ⟨g, 0, none⟩) 32 32) W := by
  have hal : Try.prog.arrayLen 23 = 32 := by kernel_rfl
  have := run_sliceAt_array_all (P := Try.prog) W 23 ⟨g, 0, none⟩ (by rw [hal]; exact Try.underlying23)
  rw [this, hal]
  have hs : (sizeOf (Try.prog.elem 23)).run Try.prog W = .ok 1 W := by kernel_rfl
  rw [hs]
  simp [slicedAt, Result.andThen, Addr.add]

set_option maxHeartbeats 400000 in
theorem compare_any (a b : List UInt8) (w : World) (ha : a.length = 32) (hb : b.length = 32) :
    Calls Try.prog 20 #[.agg (bA a), .agg (bA b)] w fun e w' => e = .returned (.int .i64 (cmpL a b)) ∧ Below w.heap.size w w' := by
  have HA := Lib.hid ha
  have HB := Lib.hid hb
  clear ha hb
  have hsl := slice23all
  go_enter Try.func20, Try.ntmps20
  go_wp2_with (first
    | ((with_reducible refine at_dst 2 ?_); refine wpList_bxB rfl 23 _ rfl (bA a) rfl ?_; intro w1 hb1 hg1)
    | ((with_reducible refine at_dst 3 ?_); refine wpList_bxB rfl 23 _ rfl (bA b) rfl ?_; intro w2 hb2 hg2))
  have hb1' := hb1.grown hg2 (by simp)
  refine wp_region_ext (by kernel_rfl) (by kernel_rfl) ?_
  repeat (go_big_quiet_step ((go_at_call 37; exact calls_ext_same (scompare_any a b _ _ _ HA.out HB.out (blk_ext hb1' _) (blk_ext hb2 _)))))
  refine wpQuiet_nil ?_
  rintro _ ⟨x, rfl⟩
  have hx := ext_below w2 x
  go_wp2
  go_ret
  exact ⟨rfl, bT (bN (bN (Below.refl _ w) hg1) hg2) hx⟩
end Go.Proofs.Ytblbcmkhgjlpcaa
