/-
  Read of package oid and of the reference; the reference's Digits and Hex.
-/
import Derived.Test.YtblbcmkhgjlpcaaC
namespace Go.Proofs.Ytblbcmkhgjlpcaa
open Go.RowKit Zk
set_option linter.unusedVariables false

theorem et62 : Elem Try.prog 62 3 (.int .i64 0) 1 8 := ⟨Try.underlying62, by kernel_rfl, rfl, by decide⟩

theorem begin_any (s : ByteArray) (w : World) :
    Calls Try.prog 11 #[.string s] w fun e w' => e = .returned (.tuple #[.agg (pfA (beginR s.data.toList).1 (beginR s.data.toList).2.1), .int .i64 (beginR s.data.toList).2.2]) ∧ Below w.heap.size w w' := by
  by_cases h : 64 < s.size
  · refine (begin_long s w h).mono ?_
    rintro e w' ⟨rfl, hb⟩
    exact ⟨by simp [beginR, h], hb⟩
  · refine (begin_short s w (by omega)).mono ?_
    rintro e w' ⟨⟨hk, rfl⟩ | ⟨hk, rfl⟩, hb⟩
    · exact ⟨by simp [beginR, h, hk], hb⟩
    · exact ⟨by simp [beginR, h, hk], hb⟩
theorem rbegin_any (s : ByteArray) (w : World) :
    Calls Try.prog 12 #[.string s] w fun e w' => e = .returned (.tuple #[.agg (bA (beginR s.data.toList).1), .int .i64 (beginR s.data.toList).2.1, .int .i64 (beginR s.data.toList).2.2]) ∧ Below w.heap.size w w' := by
  by_cases h : 64 < s.size
  · refine (rbegin_long s w h).mono ?_
    rintro e w' ⟨rfl, hb⟩
    exact ⟨by simp [beginR, h], hb⟩
  · refine (rbegin_short s w (by omega)).mono ?_
    rintro e w' ⟨⟨hk, rfl⟩ | ⟨hk, rfl⟩, hb⟩
    · exact ⟨by simp [beginR, h, hk], hb⟩
    · exact ⟨by simp [beginR, h, hk], hb⟩
@[simp] theorem length_z32 : z32.length = 32 := by simp [z32]
theorem length_beginR (s : List UInt8) : (beginR s).1.length = 32 := by
  unfold beginR
  split
  · rfl
  · split
    · simp
    · rfl
/-- What Read returns. -/
def readR (s : List UInt8) : List UInt8 × Int := if s.length = 64 then ((beginR s).1, (beginR s).2.2) else (z32, 3)


theorem pfA_take (z : List UInt8) (n : Int) (h : z.length = 32) : ((pfA z n).toList.drop 0).take (bL z).length = bL z := by
  simp [pfA]
theorem size23L (z : List UInt8) (h : z.length = 32) : (Try.prog.info? 23).map (·.size) = some (bL z).length := by rw [length_bL, h]; exact size23
theorem size23A (z : List UInt8) (h : z.length = 32) : (Try.prog.info? 23).map (·.size) = some (bA z).size := by rw [size_bA, h]; exact size23
theorem size30A (z : List UInt8) (n : Int) (h : z.length = 32) : (Try.prog.info? 30).map (·.size) = some (pfA z n).size := by rw [size_pfA z n h]; exact size30
theorem bA_z32 (z : List UInt8) (h : z.length = 32) : (bA z).size = (bA z32).size := by simp [h]
theorem pfA_z32 (z : List UInt8) (n m : Int) (h : z.length = 32) : (pfA z n).size = (pfA z32 m).size := by rw [size_pfA z n h, size_pfA _ _ rfl]

set_option maxHeartbeats 400000 in
theorem read_any (s : ByteArray) (w : World) :
    Calls Try.prog 9 #[.string s] w fun e w' => e = .returned (.tuple #[.agg (bA (readR s.data.toList).1), .int .i64 (readR s.data.toList).2]) ∧ Below w.heap.size w w' := by
  by_cases h : s.size = 64
  · have h1 : ((s.size : Int) != 64) = false := by simp [h]
    have HR : Hid (readR s.data.toList = ((beginR s.data.toList).1, (beginR s.data.toList).2.2)) := by
      show readR s.data.toList = _
      unfold readR
      rw [if_pos (by rw [size_toList]; exact h)]
    have HL := Lib.hid (length_beginR s.data.toList)
    clear h
    go_enter Try.func9, Try.ntmps9
    go_wp2_with (first
      | (refine wpList_alB (o := ⟨some 2, _, _, _, _, _⟩) rfl 23 rfl _ zero23 ?_; intro w1 hb1 hg1)
      | (go_at_call 11; refine (begin_any s w1).mono ?_; rintro e w2 ⟨rfl, hB2⟩)
      | (refine wpList_alB (o := ⟨some 4, _, _, _, _, _⟩) rfl 30 rfl _ zero30 ?_; intro w3 hb3 hg3)
      | (refine wpList_stW rfl 30 _ _ rfl w2.heap.size rfl (pfA _ _) rfl 30 (pfA z32 0) hb3 (size30A _ _ HL.out) (pfA_z32 _ _ _ HL.out) (pfA_one _ _) ?_; intro w4 hb4 hg4)
      | (refine wpList_ldB rfl 23 _ rfl w2.heap.size 0 rfl 30 _ hb4 (bL _) (pfA_take _ _ HL.out) _ Try.underlying23 rfl (size23L _ HL.out) ?_)
      | (refine wpList_stW rfl 23 _ _ rfl w.heap.size rfl (bA (beginR s.data.toList).1) rfl 23 (bA z32) (((hb1.below hB2 hb1.lt).grown hg3 (by simp)).grown hg4 (by have := hb1.lt; have := hB2.size; simp; omega)) (size23A _ HL.out) (bA_z32 _ HL.out) (bL_one _) ?_; intro w5 hb5 hg5))
    refine bodyPost_ret (resB_t rfl _ rfl hb5 _ Try.underlying23 rfl (size23A _ HL.out)) rfl ⟨by rw [HR.out]; rfl, ?_⟩
    have hs1 := hg1.size
    have hs2 := hB2.size
    have hs3 := hg3.size
    have hs4 := hg4.size
    exact (((((Below.refl _ _).grown hg1 (Nat.le_refl _) (by simp)).trans (hB2.mono hs1)).grown hg3 (by omega) (by simp)).grown hg4 (by omega) (by simp; omega)).grown hg5 (by omega) (by simp)
  · have h1 : ((s.size : Int) != 64) = true := by rw [bne_iff_ne]; omega
    have HR : Hid (readR s.data.toList = (z32, 3)) := by
      show readR s.data.toList = _
      unfold readR
      rw [if_neg (by rw [size_toList]; exact h)]
    clear h
    go_enter Try.func9, Try.ntmps9
    go_wp2_with (first
      | (refine wpList_alB (o := ⟨some 2, _, _, _, _, _⟩) rfl 23 rfl _ zero23 ?_; intro w1 hb1 hg1)
      | (refine wpList_stW rfl 23 _ _ rfl w.heap.size rfl (bA z32) rfl 23 (bA z32) hb1 size23 rfl (bL_one _) ?_; intro w5 hb5 hg5))
    refine bodyPost_ret (resB_t rfl _ rfl hb5 _ Try.underlying23 rfl size23) rfl ⟨by rw [HR.out]; rfl, ?_⟩
    exact ((Below.refl _ _).grown hg1 (Nat.le_refl _) (by simp)).grown hg5 hg1.size (by simp)

set_option maxHeartbeats 400000 in
theorem rread_any (s : ByteArray) (w : World) :
    Calls Try.prog 10 #[.string s] w fun e w' => e = .returned (.tuple #[.agg (bA (readR s.data.toList).1), .int .i64 (readR s.data.toList).2]) ∧ Below w.heap.size w w' := by
  by_cases h : s.size = 64
  · have h1 : ((s.size : Int) != 64) = false := by simp [h]
    have HR : Hid (readR s.data.toList = ((beginR s.data.toList).1, (beginR s.data.toList).2.2)) := by
      show readR s.data.toList = _
      unfold readR
      rw [if_pos (by rw [size_toList]; exact h)]
    have HL := Lib.hid (length_beginR s.data.toList)
    clear h
    go_enter Try.func10, Try.ntmps10
    go_wp2_with (first
      | (refine wpList_alB (o := ⟨some 2, _, _, _, _, _⟩) rfl 23 rfl _ zero23 ?_; intro w1 hb1 hg1)
      | (go_at_call 12; refine (rbegin_any s w1).mono ?_; rintro e w2 ⟨rfl, hB2⟩)
      | (refine wpList_alB (o := ⟨some 4, _, _, _, _, _⟩) rfl 23 rfl _ zero23 ?_; intro w3 hb3 hg3)
      | (refine wpList_stW rfl 23 _ _ rfl w2.heap.size rfl (bA _) rfl 23 (bA z32) hb3 (size23A _ HL.out) (bA_z32 _ HL.out) (bL_one _) ?_; intro w4 hb4 hg4)
      | (refine wpList_load_row rfl 23 _ rfl w2.heap.size rfl 23 _ (0,0) _ hb4 Try.underlying23 rfl (size23A _ HL.out) ?_)
      | (refine wpList_stW rfl 23 _ _ rfl w.heap.size rfl (bA (beginR s.data.toList).1) rfl 23 (bA z32) (((hb1.below hB2 hb1.lt).grown hg3 (by simp)).grown hg4 (by have := hb1.lt; have := hB2.size; simp; omega)) (size23A _ HL.out) (bA_z32 _ HL.out) (bL_one _) ?_; intro w5 hb5 hg5))
    refine bodyPost_ret (resB_t rfl _ rfl hb5 _ Try.underlying23 rfl (size23A _ HL.out)) rfl ⟨by rw [HR.out]; rfl, ?_⟩
    have hs1 := hg1.size
    have hs2 := hB2.size
    have hs3 := hg3.size
    have hs4 := hg4.size
    exact (((((Below.refl _ _).grown hg1 (Nat.le_refl _) (by simp)).trans (hB2.mono hs1)).grown hg3 (by omega) (by simp)).grown hg4 (by omega) (by simp; omega)).grown hg5 (by omega) (by simp)
  · have h1 : ((s.size : Int) != 64) = true := by rw [bne_iff_ne]; omega
    have HR : Hid (readR s.data.toList = (z32, 3)) := by
      show readR s.data.toList = _
      unfold readR
      rw [if_neg (by rw [size_toList]; exact h)]
    clear h
    go_enter Try.func10, Try.ntmps10
    go_wp2_with (first
      | (refine wpList_alB (o := ⟨some 2, _, _, _, _, _⟩) rfl 23 rfl _ zero23 ?_; intro w1 hb1 hg1)
      | (refine wpList_stW rfl 23 _ _ rfl w.heap.size rfl (bA z32) rfl 23 (bA z32) hb1 size23 rfl (bL_one _) ?_; intro w5 hb5 hg5))
    refine bodyPost_ret (resB_t rfl _ rfl hb5 _ Try.underlying23 rfl size23) rfl ⟨by rw [HR.out]; rfl, ?_⟩
    exact ((Below.refl _ _).grown hg1 (Nat.le_refl _) (by simp)).grown hg5 hg1.size (by simp)

def digL (z : List UInt8) : List Int := z.flatMap fun c => [(c.toNat : Int) / 16, (c.toNat : Int) % 16]
theorem digL_snoc (z : List UInt8) (k : Nat) (c : UInt8) (h : z[k]? = some c) : digL (z.take (k + 1)) = (digL (z.take k) ++ [(c.toNat : Int) / 16]) ++ [(c.toNat : Int) % 16] := by
  rw [List.take_add_one, h]
  simp [digL]

set_option maxHeartbeats 400000 in
theorem digits_any (z : List UInt8) (w : World) (h0 : z.length = 32) :
    Calls Try.prog 35 #[.agg (bA z)] w fun e w' => ∃ A c, e = .returned (.slice A 64 c) ∧ w'.ownsRow w.heap.size 3 1 (.slice A 64 c) 64 (iL (digL z)) ∧ Below w.heap.size w w' := by
  have H0 := Lib.hid h0
  clear h0
  go_enter Try.func35, Try.ntmps35
  go_wp2_with (first
    | (refine wpList_bxB rfl 23 _ rfl (bA z) rfl ?_; intro w1 hb1 hg1))
  have hB1 : Below w.heap.size w w1 := (Below.refl _ _).grown hg1 (Nat.le_refl _) (by simp)
  go_loopw [3, 4] (fun v3 v4 wr => ∃ (k : Nat) (A : Option Addr) (c : Nat), k ≤ 32 ∧ v4 = .int .i64 k ∧ v3 = .slice A (2 * k) c ∧ wr.ownsRow w.heap.size 3 1 (.slice A (2 * k) c) (2 * k) (iL (digL (z.take k))) ∧ Blk wr w.heap.size 23 (bA z) ∧ Below w.heap.size w wr) (fun _ v4 _ => 32 - (intOf v4).toNat)
  case atStart => exact ⟨0, none, 0, by omega, rfl, rfl, World.ownsRow_nil _ _ _ _, hb1, hB1⟩
  case round =>
    obtain ⟨k, A, c, hk, rfl, rfl, ho, hbk, hB⟩ := hrel
    by_cases hlt : k < 32
    · obtain ⟨d, hd⟩ : ∃ d, z[k]? = some d := ⟨z[k]'(by rw [H0.out]; exact hlt), List.getElem?_eq_getElem _⟩
      have hcl := toNat_le d
      have hc1 := (hbk.cell k).trans (bA_get z k d hd)
      have hne := own_blk_ne ho hbk (by decide)
      have HD := Lib.hid hd
      clear hd
      have hm1 : 2 * k + 1 ≤ maxLen := by unfold maxLen; omega
      have hm2 : 2 * k + 1 + 1 ≤ maxLen := by unfold maxLen; omega
      have hm3 : (2 * k + 1) * 8 ≤ 140737488355328 := by omega
      have hm4 : (2 * k + 1 + 1) * 8 ≤ 140737488355328 := by omega
      have hs := hB.size
      have hs' : w.heap.size ≤ (wr.alloc (.cells (iL [(d.toNat : Int) / 16]).toArray 3)).heap.size := by simp; omega
      go_wp2_with (first
        | (refine wpList_app (o := ⟨some 16, _, _, _, _, _⟩) _ et62 rfl _ _ rfl w.heap.size rfl (ho.alloc _) rfl (reads_new wr (iL [(d.toNat : Int) / 16]) 3 1 1 rfl) (iL_one _) hm1 hm3 hs' ?_; intro A2 c2 w2 ho2 hg2 _; have hB2 : Below w.heap.size w w2 := below_own (hB.alloc hs _) (ho.alloc _) hg2 hs' (Nat.le_refl _); have hbk2 : Blk w2 w.heap.size 23 (bA z) := (hbk.alloc _).grown hg2 (Ne.symm hne); have hc2 := (hbk2.cell k).trans (bA_get z k d HD.out))
        | (refine wpList_app (o := ⟨some 24, _, _, _, _, _⟩) _ et62 rfl _ _ rfl w.heap.size rfl (ho2.alloc _) rfl (reads_new w2 (iL [(d.toNat : Int) % 16]) 3 1 1 rfl) (iL_one _) hm2 hm4 (by have := hB2.size; simp; omega) ?_; intro A3 c3 w3 ho3 hg3 _))
      go_roundw
      case rel => exact ⟨k + 1, A3, c3, by omega, by go_num, by simp [Nat.mul_add], by rw [digL_snoc z k d HD.out, iL_app, iL_app]; simpa [Nat.mul_add] using ho3, (hbk2.alloc _).grown hg3 (Ne.symm (own_blk_ne ho2 hbk2 (by decide))), below_own (hB2.alloc hB2.size _) (ho2.alloc _) hg3 (by have := hB2.size; simp; omega) (Nat.le_refl _)⟩
      case measure => simp [intOf]; omega
    · obtain rfl : k = 32 := by omega
      go_wp2
      go_ret
      have ht : z.take 32 = z := List.take_of_length_le (by rw [H0.out]; omega)
      rw [ht] at ho
      exact ⟨A, c, rfl, ho, hB⟩
end Go.Proofs.Ytblbcmkhgjlpcaa
