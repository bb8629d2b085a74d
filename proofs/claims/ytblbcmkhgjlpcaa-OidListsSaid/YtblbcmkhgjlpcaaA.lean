/-
  What Begin, Read and Hex of package oid and of its reference return, said of bytes.
-/
import Derived.Test.YtblbcmkhgjlpcaaRows
import Derived.Test.YtblbcmkhgjlpcaaZk
namespace Go.Proofs.Ytblbcmkhgjlpcaa
open Go.RowKit Zk
set_option linter.unusedVariables false

theorem info5 : (Try.prog.info? 5).map (fun i => (i.zero, i.size, i.bytes)) = some (some (.int .u8 0), 1, 1) := by kernel_rfl
theorem size5 : (Try.prog.info? 5).map (·.size) = some 1 := by kernel_rfl
theorem size23 : (Try.prog.info? 23).map (·.size) = some 32 := by kernel_rfl
theorem size30 : (Try.prog.info? 30).map (·.size) = some 33 := by kernel_rfl

/-! ### plain words -/
def hexD (n : Nat) : UInt8 := if n < 10 then UInt8.ofNat (48 + n) else UInt8.ofNat (87 + n)
def hexL (z : List UInt8) : List UInt8 := z.flatMap fun c => [hexD (c.toNat / 16), hexD (c.toNat % 16)]
theorem hexL_snoc (z : List UInt8) (k : Nat) (c : UInt8) (h : z[k]? = some c) : hexL (z.take (k + 1)) = hexL (z.take k) ++ [hexD (c.toNat / 16), hexD (c.toNat % 16)] := by
  rw [List.take_add_one, h]
  simp [hexL]
def worthZ (c : Int) : Int := if 48 ≤ c ∧ c ≤ 57 then c - 48 else if 97 ≤ c ∧ c ≤ 102 then c - 97 + 10 else -1
theorem worthZ_le (c : Int) : worthZ c ≤ 15 ∧ -1 ≤ worthZ c := by
  unfold worthZ
  split
  · omega
  · split <;> omega
/-- Is it a digit? -/
def isD (c : UInt8) : Bool := decide (0 ≤ worthZ (c.toNat : Int))
/-- What it is worth. -/
def dN (c : UInt8) : Nat := (worthZ (c.toNat : Int)).toNat
theorem dN_lt (c : UInt8) : dN c < 16 := by have := worthZ_le (c.toNat : Int); unfold dN; omega
theorem worth_dN (c : UInt8) (h : isD c = true) : worthZ (c.toNat : Int) = (dN c : Int) := by
  have : 0 ≤ worthZ (c.toNat : Int) := by simpa [isD] using h
  unfold dN; omega
theorem worth_no (c : UInt8) (h : isD c = false) : worthZ (c.toNat : Int) = -1 := by
  have : ¬ 0 ≤ worthZ (c.toNat : Int) := by simpa [isD] using h
  have := worthZ_le (c.toNat : Int)
  omega
/-- The i-th digit, 0 where there is none. -/
def dg (s : List UInt8) (i : Nat) : Nat := (s[i]?.map dN).getD 0
theorem dg_lt (s : List UInt8) (i : Nat) : dg s i < 16 := by
  unfold dg
  cases s[i]? with
  | none => simp
  | some c => simpa using dN_lt c
/-- The id of digits. -/
def idOf (s : List UInt8) : List UInt8 := (List.range 32).map fun j => UInt8.ofNat (16 * dg s (2 * j) + dg s (2 * j + 1))
@[simp] theorem length_idOf (s : List UInt8) : (idOf s).length = 32 := by simp [idOf]
def z32 : List UInt8 := List.replicate 32 0
/-- A prefix as a value's cells. -/
def pfA (z : List UInt8) (n : Int) : Array Value := (bL z ++ [Value.int .i64 n]).toArray
theorem size_pfA (z : List UInt8) (n : Int) (h : z.length = 32) : (pfA z n).size = 33 := by simp [pfA, h]
def okS (s : List UInt8) : Bool := s.all isD
/-- What Begin returns. -/
def beginR (s : List UInt8) : List UInt8 × Int × Int := if 64 < s.length then (z32, 0, 3) else if okS s then (idOf s, s.length, 0) else (z32, 0, 14)

theorem toNat_ofNat (n : Nat) (h : n < 256) : (UInt8.ofNat n).toNat = n := by
  simp [UInt8.toNat_ofNat']
  omega
theorem idOf_get (s : List UInt8) (j : Nat) (h : j < 32) : (idOf s)[j]? = some (UInt8.ofNat (16 * dg s (2 * j) + dg s (2 * j + 1))) := by
  simp [idOf, h]
theorem dg_take (s : List UInt8) (k i : Nat) (h : i < k) : dg (s.take k) i = dg s i := by
  unfold dg; rw [List.getElem?_take, if_pos h]
theorem dg_take_ge (s : List UInt8) (k i : Nat) (h : k ≤ i) : dg (s.take k) i = 0 := by
  unfold dg; rw [List.getElem?_take, if_neg (by omega)]; rfl
theorem dg_at (s : List UInt8) (k : Nat) (c : UInt8) (h : s[k]? = some c) : dg s k = dN c := by simp [dg, h]
theorem idOf_even (s : List UInt8) (k : Nat) (c : UInt8) (h : s[k]? = some c) (hp : k % 2 = 0) :
    (idOf s |>.length) = 32 ∧ idOf (s.take (k + 1)) = (idOf (s.take k)).set (k / 2) (UInt8.ofNat (16 * dN c)) ∧ (k < 64 → (idOf (s.take k))[k / 2]? = some 0) := by
  refine ⟨by simp, ?_, fun hk => ?_⟩
  · apply List.ext_getElem?
    intro j
    rw [List.getElem?_set]
    by_cases hj : j < 32
    · rw [idOf_get _ j hj, idOf_get _ j hj]
      by_cases e : k / 2 = j
      · have e1 : 2 * j = k := by omega
        rw [if_pos e, if_pos (by simp; omega), e1, dg_take _ _ _ (by omega), dg_take_ge _ _ _ (by omega), dg_at s k c h]
        simp
      · rw [if_neg e]
        by_cases hlt : 2 * j < k
        · rw [dg_take _ _ _ (by omega), dg_take _ _ _ (by omega), dg_take _ _ _ (by omega), dg_take _ _ _ (by omega)]
        · rw [dg_take_ge _ _ _ (by omega), dg_take_ge _ _ _ (by omega), dg_take_ge _ _ _ (by omega), dg_take_ge _ _ _ (by omega)]
    · rw [List.getElem?_eq_none (by simp; omega), List.getElem?_eq_none (by simp; omega)]
      split
      · rw [if_neg (by simp; omega)]
      · rfl
  · rw [idOf_get _ _ (by omega), dg_take_ge _ _ _ (by omega), dg_take_ge _ _ _ (by omega)]
    rfl
theorem idOf_odd (s : List UInt8) (k : Nat) (c : UInt8) (h : s[k]? = some c) (hp : k % 2 = 1) :
    idOf (s.take (k + 1)) = (idOf (s.take k)).set (k / 2) (UInt8.ofNat (16 * dg s (k - 1) + dN c)) ∧ (k < 64 → (idOf (s.take k))[k / 2]? = some (UInt8.ofNat (16 * dg s (k - 1)))) := by
  refine ⟨?_, fun hk => ?_⟩
  · apply List.ext_getElem?
    intro j
    rw [List.getElem?_set]
    by_cases hj : j < 32
    · rw [idOf_get _ j hj, idOf_get _ j hj]
      by_cases e : k / 2 = j
      · have e1 : 2 * j = k - 1 := by omega
        have e2 : 2 * j + 1 = k := by omega
        rw [if_pos e, if_pos (by simp; omega), e2, e1, dg_take _ _ _ (by omega), dg_take _ _ _ (by omega), dg_at s k c h]
      · rw [if_neg e]
        by_cases hlt : 2 * j < k
        · rw [dg_take _ _ _ (by omega), dg_take _ _ _ (by omega), dg_take _ _ _ (by omega), dg_take _ _ _ (by omega)]
        · rw [dg_take_ge _ _ _ (by omega), dg_take_ge _ _ _ (by omega), dg_take_ge _ _ _ (by omega), dg_take_ge _ _ _ (by omega)]
    · rw [List.getElem?_eq_none (by simp; omega), List.getElem?_eq_none (by simp; omega)]
      split
      · rw [if_neg (by simp; omega)]
      · rfl
  · rw [idOf_get _ _ (by omega), dg_take _ _ _ (by omega), dg_take_ge _ _ _ (by omega)]
    have e1 : 2 * (k / 2) = k - 1 := by omega
    rw [e1]
    rfl
theorem okS_snoc (s : List UInt8) (k : Nat) (c : UInt8) (h : s[k]? = some c) : okS (s.take (k + 1)) = (okS (s.take k) && isD c) := by
  rw [List.take_add_one, h]
  simp [okS]
theorem okS_not (s : List UInt8) (k : Nat) (c : UInt8) (h : s[k]? = some c) (hc : isD c = false) : okS s = false := by
  simp only [okS, List.all_eq_false]
  exact ⟨c, List.mem_of_getElem? h, by simp [hc]⟩

/-! ### the walks -/
theorem run_index_hex (W : World) (n : Nat) (h : n < 16) : (Instr.index 9 (.string { data := #[48, 49, 50, 51, 52, 53, 54, 55, 56, 57, 97, 98, 99, 100, 101, 102] }) (.int .u8 (n : Int))).run Try.prog W = .ok (.int .u8 ((hexD n).toNat : Int)) W := by
  match n, h with
  | 0, _ => show _ = _; kernel_rfl
  | 1, _ => show _ = _; kernel_rfl
  | 2, _ => show _ = _; kernel_rfl
  | 3, _ => show _ = _; kernel_rfl
  | 4, _ => show _ = _; kernel_rfl
  | 5, _ => show _ = _; kernel_rfl
  | 6, _ => show _ = _; kernel_rfl
  | 7, _ => show _ = _; kernel_rfl
  | 8, _ => show _ = _; kernel_rfl
  | 9, _ => show _ = _; kernel_rfl
  | 10, _ => show _ = _; kernel_rfl
  | 11, _ => show _ = _; kernel_rfl
  | 12, _ => show _ = _; kernel_rfl
  | 13, _ => show _ = _; kernel_rfl
  | 14, _ => show _ = _; kernel_rfl
  | 15, _ => show _ = _; kernel_rfl
  | n + 16, h => exact absurd h (by omega)

set_option maxHeartbeats 400000 in
theorem hex_any (z : List UInt8) (w : World) (h0 : z.length = 32) :
    Calls Try.prog 13 #[.agg (bA z)] w fun e w' => e = .returned (.string ⟨(hexL z).toArray⟩) ∧ Below w.heap.size w w' := by
  obtain ⟨i0, hi, hz0, hz1, hz2⟩ := info_parts info5
  have H0 := Lib.hid h0
  clear h0
  go_enter Try.func13, Try.ntmps13
  go_wp2_with (first
    | (at_make; refine wpList_make_own _ rfl _ _ 61 rfl w.heap.size 5 i0 _ 1 Try.underlying61 hi hz0 hz1 _ _ _ 64 rfl rfl rfl (by rw [hz2]; omega) (by unfold maxLen; omega) (by simp) ?_; intro w1 hown hgrow)
    | (refine wpList_load_row rfl 23 _ rfl w.heap.size rfl 23 (bA z) (0,0) _ (hgrow.block _ (by simp) (by simp) |>.trans (heap_alloc_new _ _)) Try.underlying23 rfl (by rw [size_bA, H0.out]; exact size23) ?_))
  have hb0 : Below w.heap.size w w1 := ((Below.refl _ _).alloc (Nat.le_refl _) _).grown hgrow (by simp) (by simp)
  go_loopw [3, 8] (fun v3 v8 wr => ∃ k : Nat, k ≤ 32 ∧ v8 = .int .i64 k ∧ v3 = .slice (some ⟨w.heap.size + 1, 0, none⟩) (2 * k) 64 ∧ wr.ownsRow w.heap.size 5 1 (.slice (some ⟨w.heap.size + 1, 0, none⟩) (2 * k) 64) (2 * k) (bL (hexL (z.take k))) ∧ Below w.heap.size w wr) (fun _ v8 _ => 32 - (intOf v8).toNat)
  case atStart => exact ⟨0, by omega, rfl, rfl, by simpa [hexL, bL] using hown, hb0⟩
  case round =>
    obtain ⟨k, hk, rfl, rfl, ho, hb⟩ := hrel
    by_cases hlt : k < 32
    · obtain ⟨c, hc⟩ : ∃ c, z[k]? = some c := ⟨z[k]'(by rw [H0.out]; exact hlt), List.getElem?_eq_getElem _⟩
      have hix : ∀ W, (Instr.index 23 (.agg (bA z)) (.int .i64 (k : Int))).run Try.prog W = .ok (.int .u8 (c.toNat : Int)) W := run_index_agg Try.underlying23 _ Try.underlying5 rfl size5 _ k hlt _ (bA_get z k c hc) _
      have hcl := toNat_le c
      have hx1 : ∀ W, (Instr.index 9 (.string { data := #[48, 49, 50, 51, 52, 53, 54, 55, 56, 57, 97, 98, 99, 100, 101, 102] }) (.int .u8 ((c.toNat : Int) / 16))).run Try.prog W = .ok (.int .u8 ((hexD (c.toNat / 16)).toNat : Int)) W := fun W => by
        have := run_index_hex W (c.toNat / 16) (by have := c.toNat_lt; omega)
        simpa using this
      have hx2 : ∀ W, (Instr.index 9 (.string { data := #[48, 49, 50, 51, 52, 53, 54, 55, 56, 57, 97, 98, 99, 100, 101, 102] }) (.int .u8 ((c.toNat : Int) % 16))).run Try.prog W = .ok (.int .u8 ((hexD (c.toNat % 16)).toNat : Int)) W := fun W => by
        have := run_index_hex W (c.toNat % 16) (by omega)
        simpa using this
      have hb15 : bits .and .u8 (c.toNat : Int) 15 = (c.toNat : Int) % 16 := u8_and15 _ (toNat_ge c) (by omega)
      have HC := Lib.hid hc
      clear hc
      have hfit : 2 * k + 2 ≤ 64 := by omega
      go_wp2_with fail
      go_region_held3 (fun _ => True) (trivial) ((refine step_of_wp (by rfl) ?_; refine wp_append_fits _ _ _ _ (by rfl) w.heap.size 5 i0 1 Try.underlying61 hi hz1 (w.heap.size + 1) (2 * k) 64 (bL (hexL (z.take k))) (by rfl) ((ho.alloc _).drew) ⟨wr.heap.size, 0, none⟩ 2 2 (bL [hexD (c.toNat / 16), hexD (c.toNat % 16)]) (by rfl) (by rfl) (World.news_of_block (cs := (bL [hexD (c.toNat / 16), hexD (c.toNat % 16)]).toArray) (t := 5) (fr := (0, 0)) (heap_alloc_new wr _)) (bL_one _) hfit ?_; intro w2 hown2 hgrow2))
      all_goals
        go_wp2
        go_roundw
        case rel => exact ⟨k + 1, by omega, by go_num, by simp [Nat.mul_add], by rw [hexL_snoc z k c HC.out, bL_app]; simpa [Nat.mul_add] using hown2, (hb.alloc hb.size _).drew.grown hgrow2 (by simp; have := hb.size; omega) (by simp)⟩
        case measure => simp [intOf]; omega
    · obtain rfl : k = 32 := by omega
      have hcv : (convert 61 9 (.slice (some ⟨w.heap.size + 1, 0, none⟩) 64 64)).run Try.prog wr = .ok (.string ⟨(hexL z).toArray⟩) wr := by
        have ht : z.take 32 = z := List.take_of_length_le (by rw [H0.out]; omega)
        rw [ht] at ho
        exact run_conv_reads 64 Try.underlying61 Try.underlying5 Try.underlying9 (Reads.of_own ho)
      go_wp2
      go_ret
      exact ⟨rfl, hb⟩

theorem worth_any (c : Int) (w : World) (h0 : 0 ≤ c) (h1 : c ≤ 255) :
    Calls Try.prog 33 #[.int .u8 c] w fun e w' => e = .returned (.int .i64 (worthZ c)) ∧ w = w' := by
  by_cases a : 48 ≤ c
  · by_cases b : c ≤ 57
    · go_enter Try.func33, Try.ntmps33
      go_wp2
      go_ret
      exact ⟨ret_int (by unfold worthZ; split <;> first | rfl | omega | (split <;> first | rfl | omega)), rfl⟩
    · have b' : 57 < c := by omega
      by_cases d : 97 ≤ c
      · by_cases f : c ≤ 102
        · go_enter Try.func33, Try.ntmps33
          go_wp2
          go_ret
          exact ⟨ret_int (by unfold worthZ; split <;> first | rfl | omega | (split <;> first | rfl | omega)), rfl⟩
        · go_enter Try.func33, Try.ntmps33
          go_wp2
          go_ret
          exact ⟨ret_int (by unfold worthZ; split <;> first | rfl | omega | (split <;> first | rfl | omega)), rfl⟩
      · go_enter Try.func33, Try.ntmps33
        go_wp2
        go_ret
        exact ⟨ret_int (by unfold worthZ; split <;> first | rfl | omega | (split <;> first | rfl | omega)), rfl⟩
  · have d : ¬ 97 ≤ c := by omega
    go_enter Try.func33, Try.ntmps33
    go_wp2
    go_ret
    exact ⟨ret_int (by unfold worthZ; split <;> first | rfl | omega | (split <;> first | rfl | omega)), rfl⟩
end Go.Proofs.Ytblbcmkhgjlpcaa
