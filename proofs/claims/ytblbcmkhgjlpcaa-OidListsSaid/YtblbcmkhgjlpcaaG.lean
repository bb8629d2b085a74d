/-
  works.
-/
import Derived.Test.YtblbcmkhgjlpcaaF
import Derived.Deep.RegionWith
namespace Go.Proofs.Ytblbcmkhgjlpcaa
open Go.RowKit Zk
set_option linter.unusedVariables false

def wz : List UInt8 := [171, 0] ++ List.replicate 30 0
def wa : List UInt8 := [171, 12] ++ List.replicate 30 0
def wb : List UInt8 := [171, 28] ++ List.replicate 30 0
theorem begin_w : beginR [97, 98, 48] = (wz, 3, 0) := by decide +kernel
theorem fits_wa : fitsB wz 3 wa = true := by decide +kernel
theorem fits_wb : fitsB wz 3 wb = false := by decide +kernel
theorem length_wz : wz.length = 32 := rfl
theorem length_wa : wa.length = 32 := rfl
theorem length_wb : wb.length = 32 := rfl
theorem begin_wc (w : World) : Calls Try.prog 11 #[.string ⟨#[97, 98, 48]⟩] w fun e w' => e = .returned (.tuple #[.agg (pfA wz 3), .int .i64 0]) ∧ Below w.heap.size w w' := by
  have := begin_any ⟨#[97, 98, 48]⟩ w
  have e : (⟨#[97, 98, 48]⟩ : ByteArray).data.toList = [97, 98, 48] := rfl
  rw [e, begin_w] at this
  exact this
theorem fits_wac (w : World) : Calls Try.prog 18 #[.agg (pfA wz 3), .agg (bA wa)] w fun e w' => e = .returned (.bool true) ∧ Below w.heap.size w w' := by
  have := fits_any wz 3 wa w rfl rfl
  rwa [fits_wa] at this
theorem fits_wbc (w : World) : Calls Try.prog 18 #[.agg (pfA wz 3), .agg (bA wb)] w fun e w' => e = .returned (.bool false) ∧ Below w.heap.size w w' := by
  have := fits_any wz 3 wb w rfl rfl
  rwa [fits_wb] at this
theorem build_wa (W : World) : (Instr.build 23 #[(0, .int .u8 171), (1, .int .u8 12)]).run Try.prog W = .ok (.agg (bA wa)) W := by kernel_rfl
theorem build_wb (W : World) : (Instr.build 23 #[(0, .int .u8 171), (1, .int .u8 28)]).run Try.prog W = .ok (.agg (bA wb)) W := by kernel_rfl

set_option maxHeartbeats 1000000 in
theorem works_any (w : World) : Calls Try.prog 15 #[] w fun e w' => e = .returned (.bool true) ∧ Below w.heap.size w w' := by
  go_enter Try.func15, Try.ntmps15
  go_wp2_with (first
    | (go_at_call 11; refine (begin_wc w).mono ?_; rintro e w1 ⟨rfl, hB1⟩)
    | (refine wpList_alB (o := ⟨some 1, _, _, _, _, _⟩) rfl 30 rfl _ zero30 ?_; intro w2 hb2 hg2)
    | (refine wpList_stW rfl 30 _ _ rfl w1.heap.size rfl (pfA wz 3) rfl 30 (pfA z32 0) hb2 (size30A _ _ rfl) (pfA_z32 _ _ _ rfl) (pfA_one _ _) ?_; intro w3 hb3 hg3; have hc3 := (hb3.cell 32).trans (pfA_n wz 3 rfl))
    | (refine wpList_ldG (o := ⟨some 15, _, _, _, _, _⟩) (by rfl) 30 _ rfl w1.heap.size 0 rfl 30 _ hb3 (pfA wz 3).toList (whole_take _) _ Try.underlying30 rfl (size30T _ _ rfl) ?_; simp only [Array.toArray_toList])
    | (refine wpList_bdG (o := ⟨some 16, _, _, _, _, _⟩) (by rfl) 23 [(0, .const (.int .u8 171)), (1, .const (.int .u8 12))] rfl _ rfl _ build_wa ?_)
    | (go_at_call_of 18 (Value.agg (bA wa)); refine (fits_wac w3).mono ?_; rintro e w4 ⟨rfl, hB4⟩)
    | (refine wpList_ldG (o := ⟨some 20, _, _, _, _, _⟩) (by rfl) 30 _ rfl w1.heap.size 0 rfl 30 _ (hb3.below hB4 hb3.lt) (pfA wz 3).toList (whole_take _) _ Try.underlying30 rfl (size30T _ _ rfl) ?_; simp only [Array.toArray_toList])
    | (refine wpList_bdG (o := ⟨some 21, _, _, _, _, _⟩) (by rfl) 23 [(0, .const (.int .u8 171)), (1, .const (.int .u8 28))] rfl _ rfl _ build_wb ?_)
    | (go_at_call_of 18 (Value.agg (bA wb)); refine (fits_wbc w4).mono ?_; rintro e w5 ⟨rfl, hB5⟩))
  go_ret
  have hs1 := hB1.size
  have hs2 := hg2.size
  have hs3 := hg3.size
  have hs4 := hB4.size
  exact ⟨rfl, ((((hB1.grown hg2 hs1 (by simp)).grown hg3 (by omega) (by simp; omega)).trans (hB4.mono (by omega))).trans (hB5.mono (by omega)))⟩
end Go.Proofs.Ytblbcmkhgjlpcaa
