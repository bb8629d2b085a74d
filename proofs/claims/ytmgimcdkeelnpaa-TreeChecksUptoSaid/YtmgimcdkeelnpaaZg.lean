/-
  A law's arguments, opened: slices. General; nothing here names a program.
-/
import Derived.Test.YtmgimcdkeelnpaaZe
import Derived.Test.YtmgimcdkeelnpaaZf
import Derived.Deep.Slices
namespace Go.Proofs.Ytmgimcdkeelnpaa.Zx
open Go.ChangeShapes Go.WideShapes Go.ChangeAt Go.RowKit Go.Deep Zk
set_option linter.unusedVariables false
section
variable {H : Type} {enc : TypeId × Value → H} {P : Program} {w : World} {base : Nat} {spare : Nat → Bool} {held : Bool}
/-- A list of letters for a row, from one for each place. -/
theorem list_of {α : Type} (p : Nat → α → Prop) : ∀ n, (∀ i, i < n → ∃ x, p i x) → ∃ l : List α, l.length = n ∧ ∀ i x, l[i]? = some x → p i x
  | 0, _ => ⟨[], rfl, fun i x h => by simp at h⟩
  | n + 1, h => by
    obtain ⟨l, hl, hp⟩ := list_of p n (fun i hi => h i (by omega))
    obtain ⟨x, hx⟩ := h n (by omega)
    refine ⟨l ++ [x], by simp [hl], fun i y hy => ?_⟩
    rw [List.getElem?_append] at hy
    split at hy
    · exact hp i y hy
    · rename_i hi
      have : i = n := by
        have := (List.getElem?_eq_some_iff.1 hy).1
        simp at this
        omega
      subst this
      simp [hl] at hy
      rw [← hy]
      exact hx
/-- A slice whose elements are of one cell. -/
theorem read_row1 {α : Type} (f : α → Value) (φ : α → Prop) {t e : TypeId} (ht : P.underlying t = some (.slice e)) (hc : P.cellsOf e = 1)
    (hread : ∀ n v x, DataW.trod enc P w base spare held n e [v] = some x → ∃ y, v = f y ∧ φ y)
    {fuel : Nat} {cs : List Value} {x : DataW H × List MemPlace} (h : DataW.trod enc P w base spare held fuel t cs = some x) :
    ∃ A n c, ∃ l : List α, cs = [.slice A n c] ∧ Rs w 1 A n c (l.map f) ∧ ∀ y ∈ l, φ y := by
  rcases open_slice1 ht hc h with ⟨rfl, _⟩ | ⟨a, len, cap, m, n, V, D, Pl, rfl, _, hl, hm, hmm, _, hi⟩
  · exact ⟨none, 0, 0, [], rfl, Rs.nil w 1, fun y hy => by cases hy⟩
  · have hle : len ≤ m := by rw [hmm]; split <;> omega
    obtain ⟨l, hll, hp⟩ := list_of (fun i (y : α) => V i = f y ∧ φ y) len (fun i hil => by
      obtain ⟨_, h2⟩ := hi i (by omega)
      obtain ⟨y, h3, h4⟩ := hread n (V i) _ h2
      exact ⟨y, h3, h4⟩)
    refine ⟨some a, len, cap, l, rfl, ⟨⟨by simp [hll], fun h0 => ⟨a, rfl, ?_, fun j u hu => ?_⟩⟩, hl, by unfold maxLen at hm; exact hm⟩, fun y hy => ?_⟩
    · have h1 := (hi 0 (by omega)).1
      have := World.block_lt_of_cell? w _ h1
      rwa [block_of_add] at this
    · rw [List.getElem?_map] at hu
      cases hj : l[j]? with
      | none => rw [hj] at hu; cases hu
      | some y =>
        rw [hj] at hu
        simp only [Option.map_some, Option.some.injEq] at hu
        have hjl : j < len := by rw [← hll]; exact (List.getElem?_eq_some_iff.1 hj).1
        rw [← hu, ← (hp j y hj).1]
        exact (hi j (by omega)).1
    · obtain ⟨i, hi2, rfl⟩ := List.getElem_of_mem hy
      exact (hp i _ (List.getElem?_eq_getElem hi2)).2
theorem read_u8 {e : TypeId} (he : P.underlying e = some (.int .u8)) (n : Nat) (v : Value) (x : DataW H × List MemPlace) (h : DataW.trod enc P w base spare held n e [v] = some x) : ∃ y, v = bV y ∧ True := by
  obtain ⟨a, ha, _, hw⟩ := DataW.trod_int he h
  obtain ⟨c, rfl⟩ := u8_of a hw
  simp only [List.cons.injEq, and_true] at ha
  exact ⟨c, ha, trivial⟩
/-- A slice of bytes. -/
theorem read_bytesS {t e : TypeId} (ht : P.underlying t = some (.slice e)) (he : P.underlying e = some (.int .u8)) (hc : P.cellsOf e = 1)
    {fuel : Nat} {cs : List Value} {x : DataW H × List MemPlace} (h : DataW.trod enc P w base spare held fuel t cs = some x) :
    ∃ A n c l, cs = [.slice A n c] ∧ Rs w 1 A n c (bL l) := by
  obtain ⟨A, n, c, l, h1, h2, _⟩ := read_row1 bV (fun _ => True) ht hc (read_u8 he) h
  exact ⟨A, n, c, l, h1, h2⟩
/-- A slice of bytes, and what it reads as. -/
structure Part where
  A : Option Addr
  n : Nat
  c : Nat
  l : List UInt8
def pv (p : Part) : Value := .slice p.A p.n p.c
def p0 : Part := ⟨none, 0, 0, []⟩
def Part.ok (w : World) (p : Part) : Prop := Rs w 1 p.A p.n p.c (bL p.l)
/-- A slice of slices of bytes. -/
theorem read_bytesSS {t u e : TypeId} (ht : P.underlying t = some (.slice u)) (hc : P.cellsOf u = 1) (hu : P.underlying u = some (.slice e)) (he : P.underlying e = some (.int .u8)) (hc' : P.cellsOf e = 1)
    {fuel : Nat} {cs : List Value} {x : DataW H × List MemPlace} (h : DataW.trod enc P w base spare held fuel t cs = some x) :
    ∃ A n c, ∃ ps : List Part, cs = [.slice A n c] ∧ Rs w 1 A n c (ps.map pv) ∧ ∀ p ∈ ps, p.ok w :=
  read_row1 pv (Part.ok w) ht hc (fun n v x h => by
    obtain ⟨A, n, c, l, h1, h2⟩ := read_bytesS hu he hc' h
    simp only [List.cons.injEq, and_true] at h1
    exact ⟨⟨A, n, c, l⟩, h1, h2⟩) h
/-- The value itself. -/
theorem slice_of_cells {r : Reach} {b0 : Nat} {t e : TypeId} {v : Value} {A : Option Addr} {n c : Nat} (ht : P.underlying t = some (.slice e)) (hv : Value.okWide P w r b0 t v) (h : v.cells.toList = [.slice A n c]) : v = .slice A n c := by
  obtain ⟨A', n', c', rfl⟩ := okWide_slice ht hv
  simpa [Value.cells] using h
theorem open_bytesS {r : Reach} {b0 : Nat} {t e : TypeId} {v : Value} {d : DataW H} {p : List MemPlace} (ht : P.underlying t = some (.slice e)) (he : P.underlying e = some (.int .u8)) (hc : P.cellsOf e = 1)
    (hv : Value.okWide P w r b0 t v) (h : DataW.Trod enc P w base spare held t v d p) : ∃ A n c l, v = .slice A n c ∧ Rs w 1 A n c (bL l) := by
  obtain ⟨fuel, hf⟩ := h
  obtain ⟨A, n, c, l, h1, h2⟩ := read_bytesS ht he hc hf
  exact ⟨A, n, c, l, slice_of_cells ht hv h1, h2⟩
theorem open_bytesSS {r : Reach} {b0 : Nat} {t u e : TypeId} {v : Value} {d : DataW H} {p : List MemPlace} (ht : P.underlying t = some (.slice u)) (hc : P.cellsOf u = 1) (hu : P.underlying u = some (.slice e)) (he : P.underlying e = some (.int .u8)) (hc' : P.cellsOf e = 1)
    (hv : Value.okWide P w r b0 t v) (h : DataW.Trod enc P w base spare held t v d p) : ∃ A n c, ∃ ps : List Part, v = .slice A n c ∧ Rs w 1 A n c (ps.map pv) ∧ ∀ p ∈ ps, p.ok w := by
  obtain ⟨fuel, hf⟩ := h
  obtain ⟨A, n, c, ps, h1, h2, h3⟩ := read_bytesSS ht hc hu he hc' hf
  exact ⟨A, n, c, ps, slice_of_cells ht hv h1, h2, h3⟩
end
end Go.Proofs.Ytmgimcdkeelnpaa.Zx
