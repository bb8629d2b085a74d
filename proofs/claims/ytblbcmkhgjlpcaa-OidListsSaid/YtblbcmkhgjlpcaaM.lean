/-
  The walk of OidFits; a struct of an id and a number among the arguments.
-/
import Derived.Test.YtblbcmkhgjlpcaaL
namespace Go.Proofs.Ytblbcmkhgjlpcaa
open Go.RowKit Zk
set_option linter.unusedVariables false

set_option maxHeartbeats 2000000 in
theorem lfits_walk (z a b : List UInt8) (n : Int) (w : World) (h0 : z.length = 32) (ha : a.length = 32) (hb : b.length = 32) :
    Calls Try.prog 5 #[.agg (pfA z n), .agg (bA a), .agg (bA b)] w fun e w' => e = .returned (.bool true) ∧ Below w.heap.size w w' := by
  have H0 := Lib.hid h0
  have HA := Lib.hid ha
  have HB := Lib.hid hb
  clear h0 ha hb
  go_enter Try.func5, Try.ntmps5
  go_wp2_with (first
    | ((with_reducible refine at_dst 3 ?_); refine wpList_bxB rfl 30 _ rfl (pfA z n) rfl ?_; intro w1 hb1 hg1)
    | ((with_reducible refine at_dst 4 ?_); refine wpList_bxB rfl 23 _ rfl (bA a) rfl ?_; intro w2 hb2 hg2)
    | ((with_reducible refine at_dst 5 ?_); refine wpList_bxB rfl 23 _ rfl (bA b) rfl ?_; intro w3 hb3 hg3))
  have d1 := (hb1.grown hg2 (by simp)).grown hg3 (by simp)
  have d2 := hb2.grown hg3 (by simp)
  have hc := cell_ext ((d1.cell 32).trans (pfA_n z n H0.out))
  have c3 := bN (bN (bN (Below.refl _ w) hg1) hg2) hg3
  refine wp_region_ext (by kernel_rfl) (by kernel_rfl) ?_
  repeat (first
    | ((first | (with_reducible refine at_qdst 7 ?_) | (with_reducible refine at_qdst 16 ?_)); refine quiet_ldB (by rfl) 30 _ rfl w.heap.size 0 rfl 30 _ d1 (pfA z n).toList (whole_take _) _ Try.underlying30 rfl (size30T _ _ H0.out) ?_; go_frame; simp only [Array.toArray_toList])
    | ((first | (with_reducible refine at_qdst 10 ?_) | (with_reducible refine at_qdst 20 ?_)); refine quiet_ldB (by rfl) 23 _ rfl w.heap.size 0 rfl 30 _ d1 (bA z).toList (pfA_takeA z n H0.out) _ Try.underlying23 rfl (size23T _ H0.out) ?_; go_frame; simp only [Array.toArray_toList])
    | ((first | (with_reducible refine at_qdst 17 ?_) | (with_reducible refine at_qdst 23 ?_) | (with_reducible refine at_qdst 28 ?_) | (with_reducible refine at_qdst 31 ?_)); refine quiet_ldB (by rfl) 23 _ rfl w1.heap.size 0 rfl 23 _ d2 (bA a).toList (whole_take _) _ Try.underlying23 rfl (size23T _ HA.out) ?_; go_frame; simp only [Array.toArray_toList])
    | ((first | (with_reducible refine at_qdst 29 ?_) | (with_reducible refine at_qdst 32 ?_)); refine quiet_ldB (by rfl) 23 _ rfl w2.heap.size 0 rfl 23 _ hb3 (bA b).toList (whole_take _) _ Try.underlying23 rfl (size23T _ HB.out) ?_; go_frame; simp only [Array.toArray_toList])
    | go_big_quiet_step ((first | (go_at_call 16; exact calls_ext (right_any z n _ H0.out)) | (go_at_call 17; exact calls_ext (rright_any z n _ H0.out)) | (go_at_call 18; exact calls_ext (fits_any z n a _ H0.out HA.out)) | (go_at_call 19; exact calls_ext (rfits_any z n a _ H0.out HA.out)) | (go_at_call 20; exact calls_ext (compare_any a b _ HA.out HB.out)) | (go_at_call 21; exact calls_ext (rcompare_any a b _ HA.out HB.out)) | (go_at_call 15; exact calls_ext (works_any _)))))
  refine wpQuiet_nil ?_
  rintro _ ⟨x, rfl⟩
  have hx := ext_below w3 x
  go_wp2
  go_ret
  exact ⟨rfl, bT c3 hx⟩
end Go.Proofs.Ytblbcmkhgjlpcaa
