/-
  The second form's bound: what it gives of a law's arguments. General; nothing here names a program.
-/
import Derived.Test.YtmgimcdkeelnpaaZi
import Derived.Test.YtmgimcdkeelnpaaRows
import Derived.Deep.CondSized
import Derived.JoinedCond
namespace Go.Proofs.Ytmgimcdkeelnpaa.Zx
open Go.ChangeShapes Go.WideShapes Go.ChangeAt Go.RowKit Go.Deep Zk
set_option linter.unusedVariables false
section
variable {H : Type} {enc : TypeId × Value → H} {P : Program} {w : World} {base : Nat} {spare : Nat → Bool} {held : Bool}
theorem bulk_pos (d : DataW H) : 1 ≤ Rows.uptoBulk d := by
  cases d with
  | lit l => cases l <;> simp [Rows.uptoBulk]
  | _ => simp [Rows.uptoBulk]
theorem flat_one {α : Type} (f : α → Value) : ∀ l : List α, l.flatMap (fun y => [f y]) = l.map f
  | [] => rfl
  | y :: l => by rw [List.flatMap_cons, flat_one f l]; rfl
theorem sum_ones {α : Type} : ∀ l : List α, (l.map fun _ => 1).sum = l.length
  | [] => rfl
  | y :: l => by rw [List.map_cons, List.sum_cons, sum_ones l, List.length_cons]; omega
theorem bulk_range {α : Type} (m : α → Nat) : ∀ (l : List α) (D : Nat → DataW H), (∀ i y, l[i]? = some y → m y ≤ Rows.uptoBulk (D i)) → (l.map m).sum ≤ Rows.uptoBulkAll ((List.range l.length).map D)
  | [], D, h => by simp
  | x :: l, D, h => by
    rw [List.length_cons, List.range_succ_eq_map, List.map_cons, List.map_cons, List.map_map, Rows.uptoBulkAll, List.sum_cons]
    have h1 := h 0 x rfl
    have h2 := bulk_range m l (D ∘ Nat.succ) (fun i y hy => h (i + 1) y hy)
    omega
/-- A slice whose elements are of many cells, with its bulk. -/
theorem read_rowNB {α : Type} (f : α → List Value) (φ : α → Prop) (m : α → Nat) (size : Nat) {t e : TypeId} (ht : P.underlying t = some (.slice e)) (hc : P.cellsOf e = size) (hpos : 0 < size) (hlen : ∀ y, (f y).length = size)
    (hread : ∀ n cs x, cs.length = size → DataW.trod enc P w base spare held n e cs = some x → ∃ y, cs = f y ∧ φ y ∧ m y ≤ Rows.uptoBulk x.1)
    {fuel : Nat} {cs : List Value} {x : DataW H × List MemPlace} (h : DataW.trod enc P w base spare held fuel t cs = some x) :
    ∃ A n c, ∃ l : List α, cs = [.slice A n c] ∧ Rs w size A n c (l.flatMap f) ∧ (∀ y ∈ l, φ y) ∧ l.length = n ∧ (l.map m).sum + 1 ≤ Rows.uptoBulk x.1 := by
  rcases open_slice ht h with ⟨rfl, rfl⟩ | ⟨a, len, cap, k, n, D, Pl, rfl, _, hl, hm, hmm, rfl, hi⟩
  · exact ⟨none, 0, 0, [], rfl, Rs.nil w size, (fun y hy => by cases hy), rfl, by simp [Rows.uptoBulk]⟩
  · have hle : len ≤ k := by rw [hmm]; split <;> omega
    rw [hc] at hi
    obtain ⟨l, hll, hp⟩ := list_of (fun i (y : α) => w.cells? base (a.add (i * size)) size = some (f y) ∧ φ y ∧ m y ≤ Rows.uptoBulk (D i)) len (fun i hil => by
      obtain ⟨cs', h1, h2⟩ := hi i (by omega)
      obtain ⟨y, h3, h4, h5⟩ := hread n cs' _ (World.cells?_some h1).2.1 h2
      exact ⟨y, by rw [← h3]; exact h1, h4, h5⟩)
    refine ⟨some a, len, cap, l, rfl, ⟨⟨by rw [flat_len f size hlen, hll], fun h0 => ⟨a, rfl, ?_, fun j u hu => ?_⟩⟩, hl, by unfold maxLen at hm; exact hm⟩, fun y hy => ?_, hll, ?_⟩
    · obtain ⟨cs', h1, h2⟩ := hi 0 (by omega)
      have h3 := (World.cells?_some h1).2.2 0 hpos
      rw [List.getElem?_eq_getElem (by rw [(World.cells?_some h1).2.1]; exact hpos)] at h3
      have := World.block_lt_of_cell? w _ h3
      rwa [block_of_add, block_of_add] at this
    · obtain ⟨i, y, h1, h2, h3⟩ := flat_get f size hlen l j u hu
      have h4 := (World.cells?_some (hp i y h1).1).2.2 (j - i * size) (by have := (List.getElem?_eq_some_iff.1 h3).1; rwa [hlen y] at this)
      rw [Go.Deep.add_add, show i * size + (j - i * size) = j by omega, h3] at h4
      exact h4
    · obtain ⟨i, hi2, rfl⟩ := List.getElem_of_mem hy
      exact (hp i _ (List.getElem?_eq_getElem hi2)).2.1
    · have h6 := bulk_range m l D (fun i y hy => (hp i y hy).2.2)
      rw [hll] at h6
      simp only [Rows.uptoBulk]
      omega
/-- A struct of three cells. -/
theorem read_struct3 {e : TypeId} {f0 f1 f2 : Field} (he : P.underlying e = some (.struct #[f0, f1, f2])) (o0 : f0.offset = 0) (o1 : f1.offset = 1) (o2 : f2.offset = 2) (c0 : P.cellsOf f0.type = 1) (c1 : P.cellsOf f1.type = 1) (c2 : P.cellsOf f2.type = 1)
    {n : Nat} {cs : List Value} {x : DataW H × List MemPlace} (hl : cs.length = 3) (h : DataW.trod enc P w base spare held n e cs = some x) :
    ∃ v0 v1 v2 y0 y1 y2 k, cs = [v0, v1, v2] ∧ x.1 = .agg [y0.1, y1.1, y2.1] ∧ DataW.trod enc P w base spare held k f0.type [v0] = some y0 ∧ DataW.trod enc P w base spare held k f1.type [v1] = some y1 ∧ DataW.trod enc P w base spare held k f2.type [v2] = some y2 := by
  obtain ⟨xs, k, hk, rfl, _, hxl, hf⟩ := DataW.trod_struct he h
  match xs, hxl, cs, hl with
  | [y0, y1, y2], _, [v0, v1, v2], _ =>
    have g0 := hf 0 f0 rfl
    have g1 := hf 1 f1 rfl
    have g2 := hf 2 f2 rfl
    simp [o0, o1, o2, c0, c1, c2] at g0 g1 g2
    exact ⟨v0, v1, v2, y0, y1, y2, k, rfl, rfl, g0, g1, g2⟩
/-- A slice of bytes, with its bulk. -/
theorem open_bytesSB {r : Reach} {b0 : Nat} {t e : TypeId} {v : Value} {d : DataW H} {p : List MemPlace} (ht : P.underlying t = some (.slice e)) (he : P.underlying e = some (.int .u8)) (hc : P.cellsOf e = 1)
    (hv : Value.okWide P w r b0 t v) (h : DataW.Trod enc P w base spare held t v d p) : ∃ A n c l, v = .slice A n c ∧ Rs w 1 A n c (bL l) ∧ n + 1 ≤ Rows.uptoBulk d := by
  obtain ⟨fuel, hf⟩ := h
  obtain ⟨A, n, c, l, h1, h2, _, h4, h5⟩ := read_rowNB (fun y => [bV y]) (fun _ => True) (fun _ => 1) 1 ht hc (by decide) (fun _ => rfl) (fun k cs x hl hx => by
    obtain ⟨a, ha, _, hw⟩ := DataW.trod_int he hx
    obtain ⟨c, rfl⟩ := u8_of a hw
    exact ⟨c, ha, trivial, bulk_pos _⟩) hf
  refine ⟨A, n, c, l, slice_of_cells ht hv h1, by rwa [flat_one] at h2, ?_⟩
  rw [sum_ones, h4] at h5
  exact h5
end
end Go.Proofs.Ytmgimcdkeelnpaa.Zx
