/-
  The law's argument: a list of calls, opened.
-/
import Derived.Test.YtcbnhmcfdpcbhaaF
import Derived.Test.YtcbnhmcfdpcbhaaZu
namespace Go.Proofs.Ytcbnhmcfdpcbhaa
open Go.RowKit Zk Zx
open Go.ChangeShapes Go.WideShapes Go.ChangeAt Go.Deep
set_option linter.unusedVariables false
section
variable {H : Type} {enc : TypeId × Value → H} {w : World} {base : Nat} {spare : Nat → Bool} {held : Bool}
theorem u64_of (a : Int) (h : (Lit.int .u64 a).wf = true) : ∃ x : Nat, a = (x : Int) ∧ x ≤ 18446744073709551615 := by
  have hx : 0 ≤ a ∧ a ≤ 18446744073709551615 := by simpa [Lit.wf, IntKind.min, IntKind.max, IntKind.signed, IntKind.bits] using h
  exact ⟨a.toNat, by omega, by omega⟩
/-- How much a call weighs. -/
def wgt (p : PutR) : Nat := p.s.size + 4
theorem read_put (n : Nat) (cs : List Value) (x : DataW H × List MemPlace) (hl : cs.length = 3) (h : DataW.trod enc Try.prog w base spare held n 29 cs = some x) :
    ∃ p : PutR, cs = pf p ∧ (p.x ≤ 18446744073709551615 ∧ (Lit.int .i64 p.d).wf = true) ∧ wgt p ≤ Rows.uptoBulk x.1 := by
  obtain ⟨v0, v1, v2, y0, y1, y2, k, rfl, hx, h0, h1, h2⟩ := read_struct3 Try.underlying29 rfl rfl rfl (by kernel_rfl) (by kernel_rfl) (by kernel_rfl) hl h
  obtain ⟨a, e0, z0, g0⟩ := DataW.trod_int Try.underlying3 h0
  obtain ⟨b, e1, z1, g1⟩ := DataW.trod_int Try.underlying27 h1
  obtain ⟨s, e2, z2, g2⟩ := DataW.trod_string Try.underlying9 h2
  obtain ⟨c, rfl, hc⟩ := u64_of b g1
  simp only [List.cons.injEq, and_true] at e0 e1 e2
  subst e0
  subst e1
  subst e2
  refine ⟨⟨a, c, s⟩, rfl, ⟨hc, g0⟩, ?_⟩
  rw [hx, z0, z1, z2]
  simp only [Rows.uptoBulk, Rows.uptoBulkAll, wgt, Array.length_toList]
  have : s.data.size = s.size := rfl
  omega
theorem open_puts {r : Reach} {b0 : Nat} {v : Value} {d : DataW H} {p : List MemPlace}
    (hv : Value.okWide Try.prog w r b0 22 v) (h : DataW.Trod enc Try.prog w base spare held 22 v d p) : ∃ A n c, ∃ l : List PutR, v = .slice A n c ∧ Rs w 3 A n c (l.flatMap pf) ∧ (∀ y ∈ l, y.x ≤ 18446744073709551615 ∧ (Lit.int .i64 y.d).wf = true) ∧ l.length = n ∧ (l.map wgt).sum + 1 ≤ Rows.uptoBulk d := by
  obtain ⟨fuel, hf⟩ := h
  obtain ⟨A, n, c, l, h1, h2, h3, h4, h5⟩ := read_rowNB pf (fun y => y.x ≤ 18446744073709551615 ∧ (Lit.int .i64 y.d).wf = true) wgt 3 Try.underlying22 (by kernel_rfl) (by decide) pf_len (fun k cs x hl hx => read_put k cs x hl hx) hf
  exact ⟨A, n, c, l, slice_of_cells Try.underlying22 hv h1, h2, h3, h4, h5⟩
end
theorem lp_le (p : PutR) (hx : p.x ≤ 18446744073709551615) (hs : p.s.size ≤ 1048576) : (lp p).length ≤ 10 * wgt p := by
  have h0 := vr_len10 p.x hx
  have h1 := vr_len10 p.s.size (by omega)
  have h2 : p.s.data.toList.length = p.s.size := by simp
  have h3 := length_tl (p.x % 4294967296) 4
  have h4 := length_tl p.x 8
  unfold lp laidL wgt
  repeat' split
  all_goals simp only [List.length_append, List.length_cons, List.length_nil, h2, h3, h4] at *
  all_goals omega
theorem wgt_mem : ∀ (l : List PutR) (p : PutR), p ∈ l → wgt p ≤ (l.map wgt).sum
  | [], p, h => by cases h
  | q :: l, p, h => by
    rw [List.map_cons, List.sum_cons]
    rcases List.mem_cons.1 h with rfl | h
    · omega
    · have := wgt_mem l p h
      omega
theorem allL_le : ∀ (l : List PutR), (∀ y ∈ l, y.x ≤ 18446744073709551615 ∧ y.s.size ≤ 1048576) → (allL l).length ≤ 10 * (l.map wgt).sum
  | [], h => by simp [allL]
  | q :: l, h => by
    have h1 := allL_le l (fun y hy => h y (List.mem_cons_of_mem _ hy))
    have h2 := lp_le q (h q List.mem_cons_self).1 (h q List.mem_cons_self).2
    rw [allL, List.flatMap_cons, List.length_append, List.map_cons, List.sum_cons]
    rw [allL] at h1
    omega
theorem allL_takele (l : List PutR) (k : Nat) : (allL (l.take k)).length ≤ (allL l).length := by
  have : allL l = allL (l.take k) ++ allL (l.drop k) := by
    unfold allL
    rw [← List.flatMap_append, List.take_append_drop]
  rw [this, List.length_append]
  omega
/-- The law at arguments of little bulk. -/
theorem lays_small (L : Option Addr) (n c0 : Nat) (l : List PutR) (w0 : World) (hl : Rs w0 3 L n c0 (l.flatMap pf)) (hx : ∀ y ∈ l, y.x ≤ 18446744073709551615 ∧ (Lit.int .i64 y.d).wf = true) (hln : l.length = n) (hs : (l.map wgt).sum + 1 ≤ 1048576) :
    Calls Try.prog 3 #[.slice L n c0] w0 fun e w' => e = .returned (.bool true) ∧ Below w0.heap.size w0 w' := by
  have hm : ∀ y ∈ l, y.s.size ≤ 1048576 := fun y hy => by have := wgt_mem l y hy; have : wgt y = y.s.size + 4 := rfl; omega
  have ha := allL_le l (fun y hy => ⟨(hx y hy).1, hm y hy⟩)
  refine (lays L n c0 l w0 hln (by omega) (fun k => by have := allL_takele l k; omega) hl (fun k p hp => (hx p (List.mem_of_getElem? hp)).1) (fun k p hp => by have := allL_takele l k; have := hm p (List.mem_of_getElem? hp); omega)).mono fun e w' ⟨u, h1, h2, h3⟩ => ?_
  subst h3
  exact ⟨h1, h2⟩
end Go.Proofs.Ytcbnhmcfdpcbhaa
