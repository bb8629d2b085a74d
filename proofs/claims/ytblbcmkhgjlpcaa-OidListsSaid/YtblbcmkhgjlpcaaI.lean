/-
  OidReads: the walk.
-/
import Derived.Test.YtblbcmkhgjlpcaaH
namespace Go.Proofs.Ytblbcmkhgjlpcaa
open Go.RowKit Zk
set_option linter.unusedVariables false

theorem eqAA (z : List UInt8) (h : z.length = 32) (W : World) : (Op.equalIn 10000 23 (.agg (bA z)) (.agg (bA z))).run Try.prog W = .ok true W := by
  rw [run_equalIn_bytes W 9998 (P := Try.prog) Try.underlying23 Try.underlying5 size5 z z h h _ _ (bA_get z) (bA_get z)]
  simp
theorem eqlAA (z : List UInt8) (h : z.length = 32) (W : World) : (binOp .eql 23 (.agg (bA z)) (.agg (bA z))).run Try.prog W = .ok (.bool true) W := by
  rw [run_eql_bytes (P := Try.prog) Try.underlying23 Try.underlying5 size5 z z h h W]
  simp
theorem eqPP (z : List UInt8) (n : Int) (h : z.length = 32) (W : World) : (Op.equalIn 10000 30 (.agg (pfA z n)) (.agg (pfA z n))).run Try.prog W = .ok true W := by
  rw [eq30 z z n n h h W]
  simp
theorem eqlPP (z : List UInt8) (n : Int) (h : z.length = 32) (W : World) : (binOp .eql 30 (.agg (pfA z n)) (.agg (pfA z n))).run Try.prog W = .ok (.bool true) W := by
  rw [eql30 z z n n h h W]
  simp

set_option maxHeartbeats 1000000 in
theorem reads_walk (s : ByteArray) (z : List UInt8) (w : World) (h0 : z.length = 32) :
    Calls Try.prog 3 #[.string s, .agg (bA z)] w fun e w' => e = .returned (.bool true) ∧ Below w.heap.size w w' := by
  have H0 := Lib.hid h0
  clear h0
  have hg23 := guard23
  have hg30 := guard30
  have hR := length_readR s.data.toList
  have hB := length_beginR s.data.toList
  have e1 := eqAA _ hR
  have e2 := eqlAA _ hR
  have e3 := eqPP _ (beginR s.data.toList).2.1 hB
  have e4 := eqlPP _ (beginR s.data.toList).2.1 hB
  have hbd := build30_2 (beginR s.data.toList).1 (beginR s.data.toList).2.1 hB
  have HR := Lib.hid hR
  have HB := Lib.hid hB
  clear hR hB
  go_enter Try.func3, Try.ntmps3
  go_wp2_with (first
    | ((with_reducible refine at_dst 3 ?_); refine wpList_bxB rfl 23 _ rfl (bA z) rfl ?_; intro w1 hb1 hg1))
  refine (read_any s w1).mono ?_
  rintro e w2 ⟨rfl, hB2⟩
  go_wp2_with (first
    | ((with_reducible refine at_dst 5 ?_); refine wpList_alB rfl 23 rfl _ zero23 ?_; intro w3 hb3 hg3)
    | ((with_reducible refine at_store 17 ?_); refine wpList_stW rfl 23 _ _ rfl w2.heap.size rfl (bA (readR s.data.toList).1) rfl 23 (bA z32) hb3 (size23A _ HR.out) (bA_z32 _ HR.out) (bL_one _) ?_; intro w4 hb4 hg4))
  refine (rread_any s w4).mono ?_
  rintro e w5 ⟨rfl, hB5⟩
  go_wp2_with (first
    | ((with_reducible refine at_dst 7 ?_); refine wpList_alB rfl 23 rfl _ zero23 ?_; intro w6 hb6 hg6)
    | ((with_reducible refine at_store 22 ?_); refine wpList_stW rfl 23 _ _ rfl w5.heap.size rfl (bA (readR s.data.toList).1) rfl 23 (bA z32) hb6 (size23A _ HR.out) (bA_z32 _ HR.out) (bL_one _) ?_; intro w7 hb7 hg7))
  refine (begin_any s w7).mono ?_
  rintro e w8 ⟨rfl, hB8⟩
  go_wp2_with (first
    | ((with_reducible refine at_dst 9 ?_); refine wpList_alB rfl 30 rfl _ zero30 ?_; intro w9 hb9 hg9)
    | ((with_reducible refine at_store 27 ?_); refine wpList_stW rfl 30 _ _ rfl w8.heap.size rfl (pfA _ _) rfl 30 (pfA z32 0) hb9 (size30A _ _ HB.out) (pfA_z32 _ _ _ HB.out) (pfA_one _ _) ?_; intro w10 hb10 hg10))
  refine (rbegin_any s w10).mono ?_
  rintro e w11 ⟨rfl, hB11⟩
  go_wp2_with (first
    | ((with_reducible refine at_dst 11 ?_); refine wpList_alB rfl 23 rfl _ zero23 ?_; intro w12 hb12 hg12)
    | ((with_reducible refine at_store 32 ?_); refine wpList_stW rfl 23 _ _ rfl w11.heap.size rfl (bA _) rfl 23 (bA z32) hb12 (size23A _ HB.out) (bA_z32 _ HB.out) (bL_one _) ?_; intro w13 hb13 hg13))
  have c11 := bS (bN (Below.refl _ w11) hg12) hg13 (Nat.le_refl _)
  have c10 := bT hB11 c11
  have c8 := bT (bS (bN (Below.refl _ w8) hg9) hg10 (Nat.le_refl _)) c10
  have c7 := bT hB8 c8
  have c5 := bT (bS (bN (Below.refl _ w5) hg6) hg7 (Nat.le_refl _)) c7
  have c4 := bT hB5 c5
  have c2 := bT (bS (bN (Below.refl _ w2) hg3) hg4 (Nat.le_refl _)) c4
  have c1 := bT hB2 c2
  have c0 := bT (bN (Below.refl _ w) hg1) c1
  have d1 := hb1.below c1 hb1.lt
  have d4 := hb4.below c4 hb4.lt
  have d7 := hb7.below c7 hb7.lt
  have d10 := hb10.below c10 hb10.lt
  refine wp_region_ext (by kernel_rfl) (by kernel_rfl) ?_
  repeat (first
    | ((with_reducible refine at_qdst 35 ?_); refine quiet_ldB (by rfl) 23 _ rfl w2.heap.size 0 rfl 23 _ d4 (bA (readR s.data.toList).1).toList (whole_take _) _ Try.underlying23 rfl (size23T _ HR.out) ?_; go_frame; simp only [Array.toArray_toList])
    | ((with_reducible refine at_qdst 36 ?_); refine quiet_ldB (by rfl) 23 _ rfl w5.heap.size 0 rfl 23 _ d7 (bA (readR s.data.toList).1).toList (whole_take _) _ Try.underlying23 rfl (size23T _ HR.out) ?_; go_frame; simp only [Array.toArray_toList])
    | ((with_reducible refine at_qdst 44 ?_); refine quiet_ldB (by rfl) 30 _ rfl w8.heap.size 0 rfl 30 _ d10 (pfA (beginR s.data.toList).1 (beginR s.data.toList).2.1).toList (whole_take _) _ Try.underlying30 rfl (size30T _ _ HB.out) ?_; go_frame; simp only [Array.toArray_toList])
    | ((with_reducible refine at_qdst 45 ?_); refine quiet_ldB (by rfl) 23 _ rfl w11.heap.size 0 rfl 23 _ hb13 (bA (beginR s.data.toList).1).toList (whole_take _) _ Try.underlying23 rfl (size23T _ HB.out) ?_; go_frame; simp only [Array.toArray_toList])
    | ((with_reducible refine at_qdst 47 ?_); refine quiet_bd (by rfl) 30 [(0, .tmp 45), (1, .tmp 46)] rfl [(0, .agg (bA (beginR s.data.toList).1)), (1, .int .i64 (beginR s.data.toList).2.1)] rfl _ hbd ?_; go_frame)
    | ((with_reducible refine at_qdst 56 ?_); refine quiet_ldB (by rfl) 23 _ rfl w.heap.size 0 rfl 23 _ d1 (bA z).toList (whole_take _) _ Try.underlying23 rfl (size23T _ H0.out) ?_; go_frame; simp only [Array.toArray_toList])
    | ((with_reducible refine at_qdst 58 ?_); refine quiet_ldB (by rfl) 23 _ rfl w.heap.size 0 rfl 23 _ d1 (bA z).toList (whole_take _) _ Try.underlying23 rfl (size23T _ H0.out) ?_; go_frame; simp only [Array.toArray_toList])
    | go_big_quiet_step ((first | (go_at_call 13; exact calls_ext (hex_any z _ H0.out)) | (go_at_call 14; exact calls_ext (rhex_any z _ H0.out)) | (go_at_call 15; exact calls_ext (works_any _)))))
  refine wpQuiet_nil ?_
  rintro _ ⟨x, rfl⟩
  have hx := ext_below w13 x
  go_wp2
  go_ret
  exact ⟨rfl, bT c0 hx⟩
end Go.Proofs.Ytblbcmkhgjlpcaa
