/-
  The comparison that the pieces are sorted by.
-/
import Derived.Test.YtaknmlajhedfhaaM
import Derived.Test.YtaknmlajhedfhaaZt
import Derived.Shelf.Small.Strs
namespace Go.Proofs
open Go.Shelf Go.RowKit Go.Lib Go.Sort
def Ytaknmlajhedfhaa.strCmp_ren : Go.Shelf.Ren := ⟨fun | 106 => 23 | 213 => 31 | 265 => 44 | n => n, fun | 9 => 9 | 3 => 3 | n => n, fun | n => n⟩
theorem Ytaknmlajhedfhaa.strCmp : Go.Proofs.Lays.n106 Try.prog Ytaknmlajhedfhaa.strCmp_ren := {
  mixed := by kernel_rfl,
  f106 := Try.func23.trans (congrArg some (by kernel_rfl)),
  f213 := Try.func31.trans (congrArg some (by kernel_rfl)),
  f265 := Try.func44.trans (congrArg some (by kernel_rfl)),
  t3 := Try.underlying3,
  a3 := Try.isAgg3,
  z3 := Try.sizeOf3,
  v3 := Try.zeroValue3,
  t9 := Try.underlying9,
  a9 := Try.isAgg9,
  z9 := Try.sizeOf9,
  v9 := Try.zeroValue9 }
namespace Ytaknmlajhedfhaa
open Zk Zx
set_option maxHeartbeats 1000000 in
theorem closure22 (x y : PC) (W : World) : Calls Try.prog 22 #[.agg (pcf x).toArray, .agg (pcf y).toArray] W fun e w' => e = .returned (.int .i64 (Lib.compareBytes x.t y.t)) ∧ ∃ q os', w' = grow (W.drewN q) os' := by
  have hcon := fun W' => Any.strings_Compare Ytaknmlajhedfhaa.strCmp ⟨x.t.toArray⟩ ⟨y.t.toArray⟩ W'
  change ∀ W', Calls Try.prog 23 _ _ _ at hcon
  show Calls Try.prog 22 #[.agg #[.string ⟨x.t.toArray⟩, .int .i64 (x.n : Int)], .agg #[.string ⟨y.t.toArray⟩, .int .i64 (y.n : Int)]] W _
  simp only at hcon
  generalize Lib.compareBytes x.t y.t = r at hcon ⊢
  go_enter Try.func22, Try.ntmps22
  go_wp2_with (go_at_call 23; refine (hcon _).mono ?_; rintro e w' ⟨rfl, rfl⟩)
  go_ret
  exact ⟨rfl, 0, _, by rw [alloc_eq_grow, alloc_eq_grow, grow_grow]; rfl⟩
instance : Inhabited PC := ⟨⟨[], 0⟩⟩
theorem cmpLays22 (blk off size : Nat) (w : World) : CmpLays Try.prog 22 #[] pcf 2 (fun x y => Lib.compareBytes x.t y.t) blk off size w :=
  fun _ _ _ _ x y => closure22 x y _
theorem swoP : SWO (ltOf fun x y : PC => Lib.compareBytes x.t y.t) where
  irrefl x := by unfold ltOf; rw [cmp_bl, bl_irr]
  trans x y z h1 h2 := by unfold ltOf at *; rw [cmp_bl] at *; exact bl_trans _ _ _ h1 h2
  ntrans x y z h1 h2 := by unfold ltOf at *; rw [cmp_bl] at *; exact bl_ntrans _ _ _ h1 h2
end Ytaknmlajhedfhaa
end Go.Proofs
