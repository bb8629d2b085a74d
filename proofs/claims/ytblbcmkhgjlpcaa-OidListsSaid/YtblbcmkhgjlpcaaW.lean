/-
  Compare, to the letter: what the sort asks for.
-/
import Derived.Test.YtblbcmkhgjlpcaaV
import Derived.Test.YtblbcmkhgjlpcaaZt
namespace Go.Proofs.Ytblbcmkhgjlpcaa
open Go.RowKit Zk Zx Go.Sort Go.Deep
set_option linter.unusedVariables false
set_option linter.unusedSimpArgs false
theorem blk_of_alloc (w : World) (t : TypeId) (cs : Array Value) : Blk (w.alloc (.cells cs t)) w.heap.size t cs := by
  unfold Blk World.alloc
  rw [Array.getElem?_push]
  simp
theorem blk_alloc {w : World} {g t : Nat} {cs : Array Value} (h : Blk w g t cs) (o : Obj) : Blk (w.alloc o) g t cs := by
  unfold Blk at *
  have hl : g < w.heap.size := by
    rcases Nat.lt_or_ge g w.heap.size with q | q
    · exact q
    · rw [Array.getElem?_eq_none q] at h; cases h
  simp only [World.alloc, Array.getElem?_push]
  rw [if_neg (by omega)]
  exact h
theorem blk_drewN {w : World} {g t : Nat} {cs : Array Value} (h : Blk w g t cs) (q : Nat) : Blk (w.drewN q) g t cs := h
set_option maxHeartbeats 400000 in
theorem compare_exact (a b : List UInt8) (w : World) (ha : a.length = 32) (hb : b.length = 32) :
    Calls Try.prog 20 #[.agg (bA a), .agg (bA b)] w fun e w' => e = .returned (.int .i64 (cmpL a b)) ∧ ∃ q os', w' = grow (w.drewN q) os' := by
  have HA := Lib.hid ha
  have HB := Lib.hid hb
  clear ha hb
  have hsl := slice23all
  go_enter Try.func20, Try.ntmps20
  have h1 : ∀ q, Blk (((w.alloc (.cells (bA a) 23)).alloc (.cells (bA b) 23)).drewN q) w.heap.size 23 (bA a) := fun q => blk_drewN (blk_alloc (blk_of_alloc w 23 (bA a)) _) q
  have h2 : ∀ q, Blk (((w.alloc (.cells (bA a) 23)).alloc (.cells (bA b) 23)).drewN q) (w.heap.size + 1) 23 (bA b) := fun q => by
    have := blk_drewN (blk_of_alloc (w.alloc (.cells (bA a) 23)) 23 (bA b)) q
    rwa [World.size_alloc] at this
  have hc := fun q => scompare_any a b _ _ _ HA.out HB.out (h1 q) (h2 q)
  go_wp2
  refine wp_region_quiet_lit (by kernel_rfl) (by kernel_rfl) ?_
  repeat (go_big_quiet_step ((go_at_call 37; exact (hc _).mono (fun e w' ⟨h1, h2⟩ => ⟨h1, _, h2.symm⟩))))
  refine wpQuiet_nil ?_
  rintro _ ⟨q, rfl⟩
  go_wp2
  go_ret
  refine ⟨rfl, q, #[.cells (bA a) 23, .cells (bA b) 23], ?_⟩
  rw [alloc_eq_grow, alloc_eq_grow, grow_grow]
  rfl
end Go.Proofs.Ytblbcmkhgjlpcaa
