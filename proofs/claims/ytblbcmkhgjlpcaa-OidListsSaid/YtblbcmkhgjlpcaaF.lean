/-
  Right and Fits of package oid; works.
-/
import Derived.Test.YtblbcmkhgjlpcaaE
import Derived.Test.YtblbcmkhgjlpcaaZl
namespace Go.Proofs.Ytblbcmkhgjlpcaa
open Go.RowKit Zk
set_option linter.unusedVariables false

theorem fields30 : (Try.prog.fieldsOf 30).toList = [{ name := "ID", type := 23, offset := 0, embedded := false, tag := "", pkgPath := "", byteOffset := 0 }, { name := "N", type := 3, offset := 32, embedded := false, tag := "", pkgPath := "", byteOffset := 32 }] := by kernel_rfl
theorem guard23 : Try.prog.eqGuardType Try.prog.depth 23 = false := by kernel_rfl
theorem guard30 : Try.prog.eqGuardType Try.prog.depth 30 = false := by kernel_rfl
theorem part30_0 (z : List UInt8) (n : Int) (h : z.length = 32) (W : World) : (part 23 (pfA z n) 0).run Try.prog W = .ok (.agg (bA z)) W := by
  have hagg : (isAgg 23).run Try.prog W = .ok true W := by kernel_rfl
  have e : (pfA z n).extract 0 32 = bA z := by
    simp only [pfA, bA, List.extract_toArray, List.extract_eq_take_drop]
    congr 1
    simp [h]
  simp [part, Sem.run_bind, hagg, e]
theorem part30_1 (z : List UInt8) (n : Int) (h : z.length = 32) (W : World) : (part 3 (pfA z n) 32).run Try.prog W = .ok (.int .i64 n) W := by
  have hagg : (isAgg 3).run Try.prog W = .ok false W := by kernel_rfl
  have e : (pfA z n)[32]? = some (.int .i64 n) := by
    simp only [pfA, List.getElem?_toArray]
    rw [List.getElem?_append_right (by simp [h])]
    simp [h]
  simp [part, Sem.run_bind, hagg, e]
theorem eq30 (a b : List UInt8) (n m : Int) (ha : a.length = 32) (hb : b.length = 32) (W : World) : (Op.equalIn 10000 30 (.agg (pfA a n)) (.agg (pfA b m))).run Try.prog W = .ok (a == b && n == m) W := by
  rw [run_equalIn_struct W 9999 30 _ _ (by kernel_rfl) (by kernel_rfl), fields30]
  have h1 := run_equalIn_bytes W 9997 Try.underlying23 Try.underlying5 size5 a b ha hb _ _ (bA_get a) (bA_get b)
  have h2 := run_equalIn_int W 9998 3 .i64 .i64 n m Try.underlying3
  simp only [Op.eqFields, Sem.run_bind, Sem.run_ite, part30_0 _ _ ha, part30_0 _ _ hb, part30_1 _ _ ha, part30_1 _ _ hb, Result.andThen_ok]
  rw [h1]
  simp only [Result.andThen_ok]
  cases a == b
  · simp
  · simp
    rw [h2]
    cases n == m <;> simp
theorem eql30 (a b : List UInt8) (n m : Int) (ha : a.length = 32) (hb : b.length = 32) (W : World) : (binOp .eql 30 (.agg (pfA a n)) (.agg (pfA b m))).run Try.prog W = .ok (.bool (a == b && n == m)) W := by
  rw [run_eql_struct, eq30 a b n m ha hb]
  rfl
theorem build30_2 (z : List UInt8) (n : Int) (h : z.length = 32) (W : World) : (Instr.build 30 #[(0, .agg (bA z)), (1, .int .i64 n)]).run Try.prog W = .ok (.agg (pfA z n)) W := by
  have hz := zero30 W
  have hf : Instr.fill ((#[(0, 32), (32, 1)] : Array (Nat × Nat))[·]?) (pfA z32 0) [(0, .agg (bA z)), (1, .int .i64 n)] = some (pfA z n) := by
    rw [fill_part _ _ 0 0 32 (bA z) _ rfl _ rfl (by simp [h]) (by rw [size_pfA _ _ rfl]; omega), fill_part _ _ 1 32 1 #[.int .i64 n] _ rfl _ rfl rfl (by simp [h, pfA])]
    simp only [Instr.fill]
    congr 1
    simp [bA, pfA, h]
  simp only [List.getElem?_toArray] at hf
  simp [Instr.build, hz, Value.cells, Sem.run_bind, hf]
def rightB (z : List UInt8) (n : Int) : Bool := decide (0 ≤ n) && (decide (n ≤ 64) && (cutL z n.toNat == z))

theorem pfA_list (z : List UInt8) (n : Int) : (pfA z n).toList = bL z ++ [Value.int .i64 n] := rfl
theorem pfA_takeA (z : List UInt8) (n : Int) (h : z.length = 32) : ((pfA z n).toList.drop 0).take (bA z).toList.length = (bA z).toList := pfA_take z n h
theorem size23T (z : List UInt8) (h : z.length = 32) : (Try.prog.info? 23).map (·.size) = some (bA z).toList.length := size23L z h
theorem size30T (z : List UInt8) (n : Int) (h : z.length = 32) : (Try.prog.info? 30).map (·.size) = some (pfA z n).toList.length := by rw [Array.length_toList]; exact size30A z n h
theorem pfA_n (z : List UInt8) (n : Int) (h : z.length = 32) : (pfA z n)[32]? = some (.int .i64 n) := by
  simp only [pfA, List.getElem?_toArray]
  rw [List.getElem?_append_right (by simp [h])]
  simp [h]

set_option maxHeartbeats 1000000 in
theorem right_any (z : List UInt8) (n : Int) (w : World) (h0 : z.length = 32) :
    Calls Try.prog 16 #[.agg (pfA z n)] w fun e w' => e = .returned (.bool (rightB z n)) ∧ Below w.heap.size w w' := by
  have H0 := Lib.hid h0
  clear h0
  by_cases a : 0 ≤ n
  · by_cases b : n ≤ 64
    · obtain ⟨m, rfl⟩ := Int.eq_ofNat_of_zero_le a
      have hm : m ≤ 64 := by omega
      have hd2 : decide ((m : Int) ≤ 64) = true := by simpa using b
      go_enter Try.func16, Try.ntmps16
      go_wp2_with (first
        | (refine wpList_bxB rfl 30 _ rfl (pfA z m) rfl ?_; intro w1 hb1 hg1))
      have hc := cell_ext ((hb1.cell 32).trans (pfA_n z m H0.out))
      have hbd := build30_2 (cutL z m) m (length_cutL _ _)
      have hg30 := guard30
      have heq := eql30 z (cutL z m) m m H0.out (length_cutL _ _)
      have heq2 := eq30 z (cutL z m) m m H0.out (length_cutL _ _)
      refine wp_region_ext (by kernel_rfl) (by kernel_rfl) ?_
      repeat (first
        | (refine quiet_ldB (o := ⟨some 12, _, _, _, _, _⟩) (by rfl) 30 _ rfl w.heap.size 0 rfl 30 _ hb1 (pfA z m).toList (whole_take _) _ Try.underlying30 rfl (size30T z m H0.out) ?_; go_frame; simp only [Array.toArray_toList])
        | (refine quiet_ldB (o := ⟨some 14, _, _, _, _, _⟩) (by rfl) 23 _ rfl w.heap.size 0 rfl 30 _ hb1 (bA z).toList (pfA_takeA z m H0.out) _ Try.underlying23 rfl (size23T z H0.out) ?_; go_frame; simp only [Array.toArray_toList])
        | (refine quiet_bd (o := ⟨some 20, _, _, _, _, _⟩) (by rfl) 30 [(0, .tmp 17), (1, .tmp 19)] rfl [(0, .agg (bA (cutL z m))), (1, .int .i64 (m : Int))] rfl (.agg (pfA (cutL z m) m)) hbd ?_; go_frame)
        | go_big_quiet_step ((go_at_call 36; exact calls_ext (cut_any z m _ H0.out hm))))
      refine wpQuiet_nil ?_
      rintro _ ⟨x, rfl⟩
      have hx := ext_below w1 x
      go_wp2
      go_ret
      refine ⟨ret_bool ?_, ((Below.refl _ _).grown hg1 (Nat.le_refl _) (by simp)).trans (hx.mono hg1.size)⟩
      simp only [rightB, a, b, decide_true, Bool.true_and, Int.toNat_natCast]
      rw [Bool.eq_iff_iff, beq_iff_eq, beq_iff_eq, eq_comm]
    · have b' : 64 < n := by omega
      have hd2 : decide (n ≤ 64) = false := by simpa using b'
      have hd1 : decide (0 ≤ n) = true := by simpa using a
      go_enter Try.func16, Try.ntmps16
      go_wp2_with (first
        | (refine wpList_bxB rfl 30 _ rfl (pfA z n) rfl ?_; intro w1 hb1 hg1))
      have hc := cell_ext ((hb1.cell 32).trans (pfA_n z n H0.out))
      refine wp_region_ext (by kernel_rfl) (by kernel_rfl) ?_
      repeat (go_big_quiet_step (fail))
      refine wpQuiet_nil ?_
      rintro _ ⟨x, rfl⟩
      have hx := ext_below w1 x
      go_wp2
      go_ret
      exact ⟨ret_bool (by simp only [rightB, hd1, hd2, Bool.false_and, Bool.and_false]), ((Below.refl _ _).grown hg1 (Nat.le_refl _) (by simp)).trans (hx.mono hg1.size)⟩
  · have a' : n < 0 := by omega
    have hd1 : decide (0 ≤ n) = false := by simpa using a'
    go_enter Try.func16, Try.ntmps16
    go_wp2_with (first
      | (refine wpList_bxB rfl 30 _ rfl (pfA z n) rfl ?_; intro w1 hb1 hg1))
    have hc := cell_ext ((hb1.cell 32).trans (pfA_n z n H0.out))
    refine wp_region_ext (by kernel_rfl) (by kernel_rfl) ?_
    repeat (go_big_quiet_step (fail))
    refine wpQuiet_nil ?_
    rintro _ ⟨x, rfl⟩
    have hx := ext_below w1 x
    go_wp2
    go_ret
    exact ⟨ret_bool (by simp only [rightB, hd1, Bool.false_and]), ((Below.refl _ _).grown hg1 (Nat.le_refl _) (by simp)).trans (hx.mono hg1.size)⟩

def fitsB (z : List UInt8) (n : Int) (id : List UInt8) : Bool := rightB z n && (cutL id n.toNat == z)

set_option maxHeartbeats 2000000 in
theorem fits_any (z : List UInt8) (n : Int) (id : List UInt8) (w : World) (h0 : z.length = 32) (h1 : id.length = 32) :
    Calls Try.prog 18 #[.agg (pfA z n), .agg (bA id)] w fun e w' => e = .returned (.bool (fitsB z n id)) ∧ Below w.heap.size w w' := by
  have H0 := Lib.hid h0
  have H1 := Lib.hid h1
  clear h0 h1
  by_cases hr : rightB z n = true
  · have hn : 0 ≤ n ∧ n ≤ 64 := by simp [rightB] at hr; exact ⟨hr.1, hr.2.1⟩
    obtain ⟨m, rfl⟩ := Int.eq_ofNat_of_zero_le hn.1
    have hm : m ≤ 64 := by omega
    have hra : ∀ W, Calls Try.prog 16 #[.agg (pfA z m)] W fun e w' => e = .returned (.bool true) ∧ Below W.heap.size W w' := fun W => by
      have := right_any z m W H0.out
      rwa [hr] at this
    have hg23 := guard23
    have heq := run_eql_bytes Try.underlying23 Try.underlying5 size5 (cutL id m) z (length_cutL _ _) H0.out
    have heq2 := fun W => run_equalIn_bytes W 9998 Try.underlying23 Try.underlying5 size5 (cutL id m) z (length_cutL _ _) H0.out _ _ (bA_get (cutL id m)) (bA_get z)
    have HR := Lib.hid hr
    have HRA := Lib.hid hra
    clear hr hra
    go_enter Try.func18, Try.ntmps18
    go_wp2_with (first
      | (refine wpList_bxB (o := ⟨some 2, _, _, _, _, _⟩) rfl 30 _ rfl (pfA z m) rfl ?_; intro w1 hb1 hg1)
      | (refine wpList_bxB (o := ⟨some 3, _, _, _, _, _⟩) rfl 23 _ rfl (bA id) rfl ?_; intro w2 hb2 hg2))
    have hb1' := hb1.grown hg2 (by simp)
    have hc := cell_ext ((hb1'.cell 32).trans (pfA_n z m H0.out))
    refine wp_region_ext (by kernel_rfl) (by kernel_rfl) ?_
    repeat (first
      | (refine quiet_ldB (o := ⟨some 5, _, _, _, _, _⟩) (by rfl) 30 _ rfl w.heap.size 0 rfl 30 _ hb1' (pfA z m).toList (whole_take _) _ Try.underlying30 rfl (size30T z m H0.out) ?_; go_frame; simp only [Array.toArray_toList])
      | (refine quiet_ldB (o := ⟨some 8, _, _, _, _, _⟩) (by rfl) 23 _ rfl w1.heap.size 0 rfl 23 _ hb2 (bA id).toList (whole_take _) _ Try.underlying23 rfl (size23T id H1.out) ?_; go_frame; simp only [Array.toArray_toList])
      | (refine quiet_ldB (o := ⟨some 13, _, _, _, _, _⟩) (by rfl) 23 _ rfl w.heap.size 0 rfl 30 _ hb1' (bA z).toList (pfA_takeA z m H0.out) _ Try.underlying23 rfl (size23T z H0.out) ?_; go_frame; simp only [Array.toArray_toList])
      | go_big_quiet_step ((first | (go_at_call 16; exact calls_ext (HRA.out _)) | (go_at_call 36; exact calls_ext (cut_any id m _ H1.out hm)))))
    refine wpQuiet_nil ?_
    rintro _ ⟨x, rfl⟩
    have hx := ext_below w2 x
    go_wp2
    go_ret
    refine ⟨ret_bool ?_, (((Below.refl _ _).grown hg1 (Nat.le_refl _) (by simp)).grown hg2 hg1.size (by simp)).trans (hx.mono (Nat.le_trans hg1.size hg2.size))⟩
    simp only [fitsB, HR.out, Bool.true_and, Int.toNat_natCast]
  · have hr' : rightB z n = false := by simpa using hr
    have hra : ∀ W, Calls Try.prog 16 #[.agg (pfA z n)] W fun e w' => e = .returned (.bool false) ∧ Below W.heap.size W w' := fun W => by
      have := right_any z n W H0.out
      rwa [hr'] at this
    have HR := Lib.hid hr'
    have HRA := Lib.hid hra
    clear hr hr' hra
    go_enter Try.func18, Try.ntmps18
    go_wp2_with (first
      | (refine wpList_bxB (o := ⟨some 2, _, _, _, _, _⟩) rfl 30 _ rfl (pfA z n) rfl ?_; intro w1 hb1 hg1)
      | (refine wpList_bxB (o := ⟨some 3, _, _, _, _, _⟩) rfl 23 _ rfl (bA id) rfl ?_; intro w2 hb2 hg2))
    have hb1' := hb1.grown hg2 (by simp)
    refine wp_region_ext (by kernel_rfl) (by kernel_rfl) ?_
    repeat (first
      | (refine quiet_ldB (o := ⟨some 5, _, _, _, _, _⟩) (by rfl) 30 _ rfl w.heap.size 0 rfl 30 _ hb1' (pfA z n).toList (whole_take _) _ Try.underlying30 rfl (size30T z n H0.out) ?_; go_frame; simp only [Array.toArray_toList])
      | go_big_quiet_step ((first | (go_at_call 16; exact calls_ext (HRA.out _)))))
    refine wpQuiet_nil ?_
    rintro _ ⟨x, rfl⟩
    have hx := ext_below w2 x
    go_wp2
    go_ret
    refine ⟨ret_bool ?_, (((Below.refl _ _).grown hg1 (Nat.le_refl _) (by simp)).grown hg2 hg1.size (by simp)).trans (hx.mono (Nat.le_trans hg1.size hg2.size))⟩
    simp only [fitsB, HR.out, Bool.false_and]
end Go.Proofs.Ytblbcmkhgjlpcaa
