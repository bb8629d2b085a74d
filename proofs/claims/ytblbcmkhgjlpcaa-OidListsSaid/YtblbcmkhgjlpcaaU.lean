/-
  The arguments of OidBeside and OidRanges, opened.
-/
import Derived.Test.YtblbcmkhgjlpcaaT
import Derived.Test.YtblbcmkhgjlpcaaZu
namespace Go.Proofs.Ytblbcmkhgjlpcaa
open Go.ChangeShapes Go.WideShapes Go.ChangeAt Go.RowKit Go.Deep Zk Zx
set_option linter.unusedVariables false
section
variable {H : Type} {enc : TypeId × Value → H} {w : World} {base : Nat} {spare : Nat → Bool} {held : Bool}
theorem read_id {fuel : Nat} {cs : List Value} {x : DataW H × List MemPlace} (h : DataW.trod enc Try.prog w base spare held fuel 23 cs = some x) : ∃ y : Id, cs = idf y := by
  obtain ⟨z, hz, hcs⟩ := read_bytes Try.underlying23 Try.underlying5 (by kernel_rfl) (by kernel_rfl) h
  exact ⟨⟨z, hz⟩, hcs⟩
theorem read_ids {fuel : Nat} {cs : List Value} {x : DataW H × List MemPlace} (h : DataW.trod enc Try.prog w base spare held fuel 44 cs = some x) : ∃ A n c, ∃ l : List Id, cs = [.slice A n c] ∧ Rs w 32 A n c (l.flatMap idf) := by
  obtain ⟨A, n, c, l, h1, h2, _⟩ := read_rowNB idf (fun _ => True) (fun _ => 0) 32 Try.underlying44 (by kernel_rfl) (by decide) idf_len (fun k cs x hl hx => by
    obtain ⟨y, hy⟩ := read_id hx
    exact ⟨y, hy, trivial, Nat.zero_le _⟩) h
  exact ⟨A, n, c, l, h1, h2⟩
theorem read_pf {fuel : Nat} {cs : List Value} {x : DataW H × List MemPlace} (hlen : cs.length = 33) (h : DataW.trod enc Try.prog w base spare held fuel 30 cs = some x) : ∃ (z : Id) (n : Int), cs = bL z.l ++ [.int .i64 n] := by
  obtain ⟨xs, n, _, hx, hl, hlen2, hg⟩ := DataW.trod_struct Try.underlying30 h
  have c23 : Try.prog.cellsOf 23 = 32 := by kernel_rfl
  have c3 : Try.prog.cellsOf 3 = 1 := by kernel_rfl
  have e0 := hg 0 _ rfl
  have e1 := hg 1 _ rfl
  change DataW.trod enc Try.prog w base spare held n 23 ((cs.drop 0).take (Try.prog.cellsOf 23)) = _ at e0
  change DataW.trod enc Try.prog w base spare held n 3 ((cs.drop 32).take (Try.prog.cellsOf 3)) = _ at e1
  rw [c23, List.drop_zero] at e0
  rw [c3] at e1
  have hxl : xs.length = 2 := hlen2
  rw [List.getElem?_eq_getElem (show 0 < xs.length by omega)] at e0
  rw [List.getElem?_eq_getElem (show 1 < xs.length by omega)] at e1
  obtain ⟨y, hy⟩ := read_id e0
  obtain ⟨m, hm, _, _⟩ := DataW.trod_int Try.underlying3 e1
  refine ⟨y, m, ?_⟩
  have hy' : cs.take 32 = bL y.l := hy
  rw [← hy', ← hm, show (cs.drop 32).take 1 = cs.drop 32 from List.take_of_length_le (by simp; omega), List.take_append_drop]
theorem open_ids {r : Reach} {b0 : Nat} {v : Value} {d : DataW H} {p : List MemPlace} (hv : Value.okWide Try.prog w r b0 44 v) (h : DataW.Trod enc Try.prog w base spare held 44 v d p) : ∃ A n c, ∃ l : List Id, v = .slice A n c ∧ Rs w 32 A n c (l.flatMap idf) := by
  obtain ⟨fuel, hf⟩ := h
  obtain ⟨A, n, c, l, h1, h2⟩ := read_ids hf
  exact ⟨A, n, c, l, slice_of_cells Try.underlying44 hv h1, h2⟩
theorem open_pfI {r : Reach} {b0 : Nat} {v : Value} {d : DataW H} {p : List MemPlace} (hv : Value.okWide Try.prog w r b0 30 v) (h : DataW.Trod enc Try.prog w base spare held 30 v d p) : ∃ (z : Id) (n : Int), v = .agg (pfA z.l n) := by
  obtain ⟨cs, rfl, hsz⟩ := okWide_struct Try.underlying30 hv
  obtain ⟨fuel, hf⟩ := h
  have c30 : Try.prog.cellsOf 30 = 33 := by kernel_rfl
  obtain ⟨z, n, hcs⟩ := read_pf (by show cs.toList.length = 33; rw [Array.length_toList]; omega) hf
  refine ⟨z, n, ?_⟩
  have hcs' : cs.toList = bL z.l ++ [.int .i64 n] := hcs
  rw [show cs = pfA z.l n by unfold pfA; rw [← hcs']]
/-- A list, a beginning, an id, a least number of digits. -/
def askL (A : Option Addr) (n c : Nat) (z : Id) (nn : Int) (x : Id) (least : Int) : List Value := [.slice A n c] ++ (bL z.l ++ [.int .i64 nn]) ++ bL x.l ++ [.int .i64 least]
theorem open_ask {r : Reach} {b0 : Nat} {v : Value} {d : DataW H} {p : List MemPlace} (hv : Value.okWide Try.prog w r b0 46 v) (h : DataW.Trod enc Try.prog w base spare held 46 v d p) :
    ∃ A n c, ∃ l : List Id, ∃ (z : Id) (nn : Int) (x : Id) (least : Int), v = .agg (askL A n c z nn x least).toArray ∧ Rs w 32 A n c (l.flatMap idf) := by
  obtain ⟨cs, rfl, hsz⟩ := okWide_struct Try.underlying46 hv
  obtain ⟨fuel, hf⟩ := h
  have c46 : Try.prog.cellsOf 46 = 67 := by kernel_rfl
  have c44 : Try.prog.cellsOf 44 = 1 := by kernel_rfl
  have c30 : Try.prog.cellsOf 30 = 33 := by kernel_rfl
  have c23 : Try.prog.cellsOf 23 = 32 := by kernel_rfl
  have c3 : Try.prog.cellsOf 3 = 1 := by kernel_rfl
  obtain ⟨xs, n, _, hx, hl, hlen2, hg⟩ := DataW.trod_struct Try.underlying46 hf
  have e0 := hg 0 _ rfl
  have e1 := hg 1 _ rfl
  have e2 := hg 2 _ rfl
  have e3 := hg 3 _ rfl
  change DataW.trod enc Try.prog w base spare held n 44 ((cs.toList.drop 0).take (Try.prog.cellsOf 44)) = _ at e0
  change DataW.trod enc Try.prog w base spare held n 30 ((cs.toList.drop 1).take (Try.prog.cellsOf 30)) = _ at e1
  change DataW.trod enc Try.prog w base spare held n 23 ((cs.toList.drop 34).take (Try.prog.cellsOf 23)) = _ at e2
  change DataW.trod enc Try.prog w base spare held n 3 ((cs.toList.drop 66).take (Try.prog.cellsOf 3)) = _ at e3
  rw [c44, List.drop_zero] at e0
  rw [c30] at e1
  rw [c23] at e2
  rw [c3] at e3
  have hxl : xs.length = 4 := hlen2
  have hcl : cs.toList.length = 67 := by rw [Array.length_toList]; omega
  rw [List.getElem?_eq_getElem (show 0 < xs.length by omega)] at e0
  rw [List.getElem?_eq_getElem (show 1 < xs.length by omega)] at e1
  rw [List.getElem?_eq_getElem (show 2 < xs.length by omega)] at e2
  rw [List.getElem?_eq_getElem (show 3 < xs.length by omega)] at e3
  obtain ⟨A, m, c, l, h1, h2⟩ := read_ids e0
  obtain ⟨z, nn, h3⟩ := read_pf (by rw [List.length_take, List.length_drop]; omega) e1
  obtain ⟨x, h4⟩ := read_id e2
  obtain ⟨least, h5, _, _⟩ := DataW.trod_int Try.underlying3 e3
  refine ⟨A, m, c, l, z, nn, x, least, ?_, h2⟩
  have h4' : (cs.toList.drop 34).take 32 = bL x.l := h4
  have hall : cs.toList = cs.toList.take 1 ++ (cs.toList.drop 1).take 33 ++ (cs.toList.drop 34).take 32 ++ (cs.toList.drop 66).take 1 := by
    have a1 := (List.take_append_drop 1 cs.toList).symm
    have a2 := (List.take_append_drop 33 (cs.toList.drop 1)).symm
    have a3 := (List.take_append_drop 32 (cs.toList.drop 34)).symm
    rw [List.drop_drop] at a2 a3
    rw [show (cs.toList.drop 66).take 1 = cs.toList.drop 66 from List.take_of_length_le (by rw [List.length_drop]; omega)]
    rw [List.append_assoc, List.append_assoc, ← a3, ← a2, ← a1]
  have hcs : cs.toList = askL A m c z nn x least := by rw [hall, h1, h3, h4', h5]; rfl
  rw [show cs = (askL A m c z nn x least).toArray by rw [← hcs]]
theorem u8_wf {v : Int} (h : (Lit.int .u8 v).wf = true) : 0 ≤ v ∧ v < 256 := by
  have hx : 0 ≤ v ∧ v ≤ 255 := by simpa [Lit.wf, IntKind.min, IntKind.max, IntKind.signed, IntKind.bits] using h
  omega
theorem beside_law (A : Option Addr) (n c : Nat) (l : List Id) (z : Id) (nn v : Int) (w0 : World) (hl : Rs w0 32 A n c (l.flatMap idf)) (hv : 0 ≤ v ∧ v < 256) :
    Calls Try.prog 7 #[.slice A n c, .agg (pfA z.l nn), .int .u8 v] w0 fun e w' => e = .returned (.bool true) ∧ Below w0.heap.size w0 w' :=
  (beside A n c l z nn v w0 hl hv).mono fun e w' ⟨u, h1, h2, h3⟩ => by subst h3; exact ⟨h1, h2⟩
end
end Go.Proofs.Ytblbcmkhgjlpcaa
