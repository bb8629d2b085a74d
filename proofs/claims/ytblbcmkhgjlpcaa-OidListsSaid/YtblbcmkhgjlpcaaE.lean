/-
  The reference's Hex; cut, Right and Fits of package oid; works.
-/
import Derived.Test.YtblbcmkhgjlpcaaD
namespace Go.Proofs.Ytblbcmkhgjlpcaa
open Go.RowKit Zk
set_option linter.unusedVariables false

theorem dig_hex (z : List UInt8) : ∀ k, k < 2 * z.length → ∃ n : Nat, n < 16 ∧ (digL z)[k]? = some (n : Int) ∧ (hexL z)[k]? = some (hexD n) := by
  induction z with
  | nil => intro k h; simp at h
  | cons c z ih =>
    intro k h
    match k with
    | 0 => exact ⟨c.toNat / 16, by have := c.toNat_lt; omega, by simp [digL], by simp [hexL]⟩
    | 1 => exact ⟨c.toNat % 16, by omega, by simp [digL], by simp [hexL]⟩
    | k + 2 =>
      obtain ⟨n, h1, h2, h3⟩ := ih k (by simp at h; omega)
      exact ⟨n, h1, by simpa [digL] using h2, by simpa [hexL] using h3⟩
theorem length_hexL (z : List UInt8) : (hexL z).length = 2 * z.length := by
  induction z with
  | nil => rfl
  | cons c z ih => simp [hexL] at ih ⊢; omega
theorem slice_hex (n : Nat) (h : n < 16) (W : World) : (Instr.slice 9 (.string { data := #[48, 49, 50, 51, 52, 53, 54, 55, 56, 57, 97, 98, 99, 100, 101, 102] }) (some (.int .i64 (n : Int))) (some (.int .i64 ((n : Int) + 1))) none).run Try.prog W = .ok (.string ⟨#[hexD n]⟩) W := by
  match n, h with
  | 0, _ => show _ = _; kernel_rfl
  | 1, _ => show _ = _; kernel_rfl
  | 2, _ => show _ = _; kernel_rfl
  | 3, _ => show _ = _; kernel_rfl
  | 4, _ => show _ = _; kernel_rfl
  | 5, _ => show _ = _; kernel_rfl
  | 6, _ => show _ = _; kernel_rfl
  | 7, _ => show _ = _; kernel_rfl
  | 8, _ => show _ = _; kernel_rfl
  | 9, _ => show _ = _; kernel_rfl
  | 10, _ => show _ = _; kernel_rfl
  | 11, _ => show _ = _; kernel_rfl
  | 12, _ => show _ = _; kernel_rfl
  | 13, _ => show _ = _; kernel_rfl
  | 14, _ => show _ = _; kernel_rfl
  | 15, _ => show _ = _; kernel_rfl
  | n + 16, h => exact absurd h (by omega)

theorem str_app (l m : List UInt8) : (⟨(l ++ m).toArray⟩ : ByteArray) = ⟨l.toArray⟩ ++ ⟨m.toArray⟩ := by
  apply ByteArray.ext
  simp
theorem below_drewN {B : Nat} {a w : World} (h : Below B a w) (n : Nat) : Below B a (w.drewN n) := ⟨h.os, h.tape, h.output, h.size, h.block⟩

set_option maxHeartbeats 400000 in
theorem rhex_any (z : List UInt8) (w : World) (h0 : z.length = 32) :
    Calls Try.prog 14 #[.agg (bA z)] w fun e w' => e = .returned (.string ⟨(hexL z).toArray⟩) ∧ Below w.heap.size w w' := by
  have H0 := Lib.hid h0
  clear h0
  go_enter Try.func14, Try.ntmps14
  go_wp2_with (first
    | (refine wpList_bxB rfl 23 _ rfl (bA z) rfl ?_; intro w1 hb1 hg1)
    | (refine wpList_load_row rfl 23 _ rfl w.heap.size rfl 23 _ (0,0) _ hb1 Try.underlying23 rfl (size23A _ H0.out) ?_)
    | (go_at_call 35; refine (digits_any z w1 H0.out).mono ?_; rintro e w2 ⟨A, c, rfl, ho, hB2⟩))
  obtain ⟨g, cap, hv, hg1', hlt⟩ := ho.form (by omega)
  obtain ⟨rfl, rfl⟩ : A = some ⟨g, 0, none⟩ ∧ c = cap := by injection hv with h1 _ h3; exact ⟨h1, h3⟩
  have hB : Below w.heap.size w w2 := ((Below.refl _ _).grown hg1 (Nat.le_refl _) (by simp)).trans (hB2.mono hg1.size)
  go_loopw [4, 5] (fun v4 v5 wr => ∃ k : Nat, k ≤ 64 ∧ v5 = .int .i64 k ∧ v4 = .string ⟨((hexL z).take k).toArray⟩ ∧ Below w2.heap.size w2 wr) (fun _ v5 _ => 64 - (intOf v5).toNat)
  case atStart => exact ⟨0, by omega, rfl, rfl, Below.refl _ _⟩
  case round =>
    obtain ⟨k, hk, rfl, rfl, hBr⟩ := hrel
    by_cases hlt : k < 64
    · obtain ⟨n, hn, hd, hx⟩ := dig_hex z k (by rw [H0.out]; omega)
      have hc : wr.cell? ⟨g, k, none⟩ = some (.int .i64 (n : Int)) := by
        rw [hBr.cell (by assumption), ho.cellAt k (by omega)]
        exact iL_get _ _ _ hd
      have hsl := slice_hex n hn
      have hw1 : IntKind.i64.wrap ((n : Int) + 1) = (n : Int) + 1 := IntWalk.i64_in _ (by omega)
      have hk2 : (k : Int) < ((64 : Nat) : Int) := by omega
      have HX := Lib.hid hx
      clear hx hd hv
      go_wp2_with fail
      go_quiet (fail)
      go_wp2
      go_roundw
      case rel => exact ⟨k + 1, by omega, by go_num, by rw [List.take_add_one, HX.out, str_app]; rfl, below_drewN hBr _⟩
      case measure => simp [intOf]; omega
    · obtain rfl : k = 64 := by omega
      have ht : (hexL z).take 64 = hexL z := List.take_of_length_le (by rw [length_hexL, H0.out]; omega)
      go_wp2
      go_ret
      exact ⟨by rw [ht]; rfl, hB.trans (hBr.mono hB.size)⟩

def cutL (z : List UInt8) (n : Nat) : List UInt8 := (List.range 32).map fun j => if j < n / 2 then z.getD j 0 else if j = n / 2 ∧ n % 2 = 1 then UInt8.ofNat ((z.getD j 0).toNat / 16 * 16) else 0
@[simp] theorem length_cutL (z : List UInt8) (n : Nat) : (cutL z n).length = 32 := by simp [cutL]

theorem and_240 : ∀ x : Fin 256, x.val &&& 240 = x.val / 16 * 16 := by decide +kernel
theorem and240 (c : UInt8) : bits .and .u8 (c.toNat : Int) 240 = ((UInt8.ofNat (c.toNat / 16 * 16)).toNat : Int) := by
  have hc := c.toNat_lt
  have := u8_and_nat c.toNat 240 hc (by omega)
  have e : ((240 : Nat) : Int) = 240 := rfl
  rw [e] at this
  rw [this, and_240 ⟨c.toNat, hc⟩, toNat_ofNat _ (by omega)]
theorem cutL_get (z : List UInt8) (n j : Nat) (h : j < 32) : (cutL z n)[j]? = some (if j < n / 2 then z.getD j 0 else if j = n / 2 ∧ n % 2 = 1 then UInt8.ofNat ((z.getD j 0).toNat / 16 * 16) else 0) := by
  simp only [cutL, List.getElem?_map, List.getElem?_range h, Option.map_some]
theorem z32_drop (m i : Nat) (h : m + i < 32) : (z32.drop m)[i]? = some 0 := by
  rw [List.getElem?_drop]
  unfold z32
  rw [List.getElem?_replicate, if_pos h]
theorem cutL_even (z : List UInt8) (n : Nat) (h : z.length = 32) (hn : n ≤ 64) (hp : n % 2 = 0) : z.take (n / 2) ++ z32.drop (n / 2) = cutL z n := by
  apply List.ext_getElem?
  intro j
  by_cases hj : j < 32
  · rw [cutL_get z n j hj]
    by_cases h1 : j < n / 2
    · rw [if_pos h1, List.getElem?_append_left (by simp; omega), List.getElem?_take, if_pos h1]
      simp [h, hj]
    · rw [if_neg h1, if_neg (by omega), List.getElem?_append_right (by simp; omega)]
      rw [z32_drop _ _ (by simp; omega)]
  · rw [List.getElem?_eq_none (by simp; omega), List.getElem?_eq_none (by simp; omega)]
theorem cutL_odd (z : List UInt8) (n : Nat) (c : UInt8) (h : z.length = 32) (hn : n ≤ 64) (hp : n % 2 = 1) (hc : z[n / 2]? = some c) :
    (z.take (n / 2) ++ z32.drop (n / 2)).set (n / 2) (UInt8.ofNat (c.toNat / 16 * 16)) = cutL z n := by
  apply List.ext_getElem?
  intro j
  rw [List.getElem?_set]
  by_cases hj : j < 32
  · rw [cutL_get z n j hj]
    by_cases h1 : j < n / 2
    · rw [if_pos h1, if_neg (by omega), List.getElem?_append_left (by simp; omega), List.getElem?_take, if_pos h1]
      simp [h, hj]
    · rw [if_neg h1]
      by_cases h2 : n / 2 = j
      · rw [if_pos h2, if_pos (by simp; omega), if_pos ⟨h2.symm, hp⟩]
        subst h2
        simp [List.getD, hc]
      · rw [if_neg h2, if_neg (by omega), List.getElem?_append_right (by simp; omega)]
        rw [z32_drop _ _ (by simp; omega)]
  · rw [List.getElem?_eq_none (by simp; omega), List.getElem?_eq_none (by simp; omega)]
    split
    · rw [if_neg (by simp; omega)]
    · rfl
theorem slice23 (g h : Nat) (hh : h ≤ 32) (W : World) : (Instr.sliceAt 23 (.pointer (some ⟨g, 0, none⟩)) none (some (.int .i64 (h : Int))) none).run Try.prog W = .ok (.slice (some ⟨g, 0, none⟩) h 32) W := by
  have hal : Try.prog.arrayLen 23 = 32 := by kernel_rfl
  have := run_sliceAt_array_h (P := Try.prog) W 23 ⟨g, 0, none⟩ (by rw [hal]; exact Try.underlying23) .i64 (h : Int) (by omega) (by rw [hal]; omega)
  rw [this, hal]
  have hs : (sizeOf (Try.prog.elem 23)).run Try.prog W = .ok 1 W := by kernel_rfl
  rw [hs]
  simp [slicedAt, Result.andThen, Addr.add]
theorem cut_src (z : List UInt8) (n g : Nat) (w : World) (h : z.length = 32) (hn : n ≤ 64) (hb : Blk w g 23 (bA z)) : Reads w (g + 1) 1 (some ⟨g, 0, none⟩) (bL (z.take (n / 2))).length (bL (z.take (n / 2))) := by
  have := hb.reads 0 (n / 2) (by simp; omega)
  have e : ((bA z).toList.drop 0).take (n / 2) = bL (z.take (n / 2)) := by simp [bA, bL, List.map_take]
  rw [e] at this
  have e2 : (bL (z.take (n / 2))).length = n / 2 := by simp; omega
  rw [e2]
  exact this

set_option maxHeartbeats 400000 in
theorem cut_any (z : List UInt8) (n : Nat) (w : World) (h0 : z.length = 32) (hn : n ≤ 64) :
    Calls Try.prog 36 #[.agg (bA z), .int .i64 (n : Int)] w fun e w' => e = .returned (.agg (bA (cutL z n))) ∧ Below w.heap.size w w' := by
  have H0 := Lib.hid h0
  clear h0
  go_enter Try.func36, Try.ntmps36
  go_wp2_with (first
    | (refine wpList_bxB rfl 23 _ rfl (bA z) rfl ?_; intro w1 hb1 hg1)
    | (refine wpList_alB (o := ⟨some 4, _, _, _, _, _⟩) rfl 23 rfl _ zero23 ?_; intro w2 hb2 hg2)
    | (refine wpList_alB (o := ⟨some 5, _, _, _, _, _⟩) rfl 23 rfl _ zero23 ?_; intro w3 hb3 hg3))
  have hw2 : IntKind.i64.wrap ((n : Int) / 2) = (n : Int) / 2 := IntWalk.i64_in _ (by omega)
  have hsl : ∀ (g : Nat) (W : World), (Instr.sliceAt 23 (.pointer (some ⟨g, 0, none⟩)) none (some (.int .i64 ((n : Int) / 2))) none).run Try.prog W = .ok (.slice (some ⟨g, 0, none⟩) (n / 2) 32) W := fun g W => by simpa using slice23 g (n / 2) (by omega) W
  go_region_held3 (fun _ => True) (trivial) (first | (refine step_of_wp (by rfl) ?_; refine wp_copyB _ _ _ 61 61 (by rfl) 5 Try.underlying61 size5 w2.heap.size 0 (n / 2) 32 (by rfl) (by rfl) (hb3.drew) (bL (z.take (n / 2))) (by simp; have := H0.out; omega) (cut_src z n _ _ H0.out hn ((hb1.grown hg2 (by simp)).grown hg3 (by simp)).drew) (by show _ ≤ (bA z32).size; simp; omega) (bL_one _) ?_; intro w4 hb4 hg4))
  all_goals
    replace hb4 : Blk w4 w2.heap.size 23 (bA (z.take (n / 2) ++ z32.drop (n / 2))) := by
      have e : ((bA z32).toList.take 0 ++ bL (z.take (n / 2)) ++ (bA z32).toList.drop (0 + (bL (z.take (n / 2))).length)).toArray = bA (z.take (n / 2) ++ z32.drop (n / 2)) := by
        have hl : (bL (z.take (n / 2))).length = n / 2 := by simp; have := H0.out; omega
        rw [hl]
        simp [bA, bL, List.map_drop]
      rw [← e]
      exact hb4
    have hz4 : Blk w4 w.heap.size 23 (bA z) := (((hb1.grown hg2 (by simp)).grown hg3 (by simp)).drew).grown hg4 (by have := hb1.lt; have := hb2.lt; simp; omega)
    have hr4 : Blk w4 w1.heap.size 23 (bA z32) := ((hb2.grown hg3 (by simp)).drew).grown hg4 (by have := hb2.lt; simp; omega)
    have hB4 : Below w.heap.size w w4 := (((((Below.refl _ _).grown hg1 (Nat.le_refl _) (by simp)).grown hg2 hg1.size (by simp)).grown hg3 (Nat.le_trans hg1.size hg2.size) (by simp)).drew).grown hg4 (by simp; have := hg1.size; have := hg2.size; have := hg3.size; omega) (by simp; have := hg1.size; have := hg2.size; omega)
    have hs2 : w.heap.size ≤ w1.heap.size := hg1.size
    have hs3 : w.heap.size < w2.heap.size := Nat.lt_of_lt_of_le hb1.lt hg2.size
    have hs4 : w1.heap.size < w2.heap.size := hb2.lt
    by_cases hp : n % 2 = 1
    · have hp' : (n : Int) % 2 = 1 := by omega
      obtain ⟨c, hc⟩ : ∃ c, z[n / 2]? = some c := ⟨z[n / 2]'(by rw [H0.out]; omega), List.getElem?_eq_getElem _⟩
      have hcl := toNat_le c
      have hcell := (hz4.cell (n / 2)).trans (bA_get z _ c hc)
      have h240 := and240 c
      obtain ⟨c2, hc2⟩ : ∃ v, (bA (z.take (n / 2) ++ z32.drop (n / 2)))[n / 2]? = some v := ⟨_, Array.getElem?_eq_getElem (by simp; have := H0.out; omega)⟩
      have hcell2 := (hb4.cell (n / 2)).trans hc2
      have hfr := hb4.frozen (n / 2)
      have hq0 : 0 ≤ (n : Int) / 2 := by omega
      have hq1 : (n : Int) / 2 < 32 := by omega
      have HC := Lib.hid hc
      have HP := Lib.hid hp
      have hset := hb4.set_ (n / 2) (.int .u8 ((UInt8.ofNat (c.toNat / 16 * 16)).toNat : Int))
      rw [bA_set, cutL_odd z n c H0.out hn hp hc] at hset
      clear hc hp hc2
      go_wp2_with (first
        | (refine wpList_load_row rfl 23 _ rfl w2.heap.size rfl 23 _ (0,0) _ hset Try.underlying23 rfl (size23A _ (length_cutL _ _)) ?_)
        | (refine wpList_stW rfl 23 _ _ rfl w1.heap.size rfl (bA (cutL z n)) rfl 23 (bA z32) (hr4.far (by simp; omega) _) (size23A _ (length_cutL _ _)) (bA_z32 _ (length_cutL _ _)) (bL_one _) ?_; intro w5 hb5 hg5))
      refine bodyPost_ret (resB rfl _ rfl hb5 _ Try.underlying23 rfl (size23A _ (length_cutL _ _))) rfl ⟨rfl, ?_⟩
      exact (hB4.setCell (by simp; omega) _).grown hg5 (by simp; exact hB4.size) (by simp; omega)
    · have hp0 : n % 2 = 0 := by omega
      have hp' : (n : Int) % 2 = 0 := by omega
      rw [cutL_even z n H0.out hn hp0] at hb4
      clear hp hp0
      go_wp2_with (first
        | (refine wpList_load_row rfl 23 _ rfl w2.heap.size rfl 23 _ (0,0) _ hb4 Try.underlying23 rfl (size23A _ (length_cutL _ _)) ?_)
        | (refine wpList_stW rfl 23 _ _ rfl w1.heap.size rfl (bA (cutL z n)) rfl 23 (bA z32) hr4 (size23A _ (length_cutL _ _)) (bA_z32 _ (length_cutL _ _)) (bL_one _) ?_; intro w5 hb5 hg5))
      refine bodyPost_ret (resB rfl _ rfl hb5 _ Try.underlying23 rfl (size23A _ (length_cutL _ _))) rfl ⟨rfl, ?_⟩
      exact hB4.grown hg5 (by exact hB4.size) (by simp; omega)
end Go.Proofs.Ytblbcmkhgjlpcaa
