/-
  A script as a law's argument, opened.
-/
import Derived.Test.YtpcgldkllnkaeaaO
import Derived.Test.YtpcgldkllnkaeaaZu
namespace Go.Proofs.Ytpcgldkllnkaeaa
open Go.ChangeShapes Go.WideShapes Go.ChangeAt Go.RowKit Go.Deep Zk Zx
set_option linter.unusedVariables false
set_option maxRecDepth 100000
section
variable {H : Type} {enc : TypeId × Value → H} {w : World} {base : Nat} {spare : Nat → Bool} {held : Bool}
theorem read_bytesB {fuel : Nat} {cs : List Value} {x : DataW H × List MemPlace} (h : DataW.trod enc Try.prog w base spare held fuel 22 cs = some x) : ∃ p : Part, cs = [pv p] ∧ p.ok w ∧ p.n ≤ Rows.uptoBulk x.1 := by
  obtain ⟨A, n, c, l, h1, h2, _, h4, h5⟩ := read_rowNB (fun y => [bV y]) (fun _ => True) (fun _ => 1) 1 Try.underlying22 (by kernel_rfl) (by decide) (fun _ => rfl) (fun k cs x hl hx => by
    obtain ⟨a, ha, _, hw⟩ := DataW.trod_int Try.underlying5 hx
    obtain ⟨c, rfl⟩ := u8_of a hw
    exact ⟨c, ha, trivial, bulk_pos _⟩) h
  refine ⟨⟨A, n, c, l⟩, h1, by rwa [flat_one] at h2, ?_⟩
  rw [sum_ones, h4] at h5
  show n ≤ _
  omega
theorem read_op {fuel : Nat} {cs : List Value} {x : DataW H × List MemPlace} (hlen : cs.length = 4) (h : DataW.trod enc Try.prog w base spare held fuel 57 cs = some x) : ∃ o : OP, cs = opf o ∧ o.p.ok w ∧ o.p.n ≤ Rows.uptoBulk x.1 := by
  obtain ⟨xs, n, _, hx, hl, hlen2, hg⟩ := DataW.trod_struct Try.underlying57 h
  have e0 := hg 0 _ rfl
  have e1 := hg 1 _ rfl
  have e2 := hg 2 _ rfl
  have e3 := hg 3 _ rfl
  change DataW.trod enc Try.prog w base spare held n 4 ((cs.drop 0).take (Try.prog.cellsOf 4)) = _ at e0
  change DataW.trod enc Try.prog w base spare held n 3 ((cs.drop 1).take (Try.prog.cellsOf 3)) = _ at e1
  change DataW.trod enc Try.prog w base spare held n 3 ((cs.drop 2).take (Try.prog.cellsOf 3)) = _ at e2
  change DataW.trod enc Try.prog w base spare held n 22 ((cs.drop 3).take (Try.prog.cellsOf 22)) = _ at e3
  have c4 : Try.prog.cellsOf 4 = 1 := by kernel_rfl
  have c3 : Try.prog.cellsOf 3 = 1 := by kernel_rfl
  have c22 : Try.prog.cellsOf 22 = 1 := by kernel_rfl
  rw [c4] at e0
  rw [c3] at e1 e2
  rw [c22] at e3
  have hxl : xs.length = 4 := hlen2
  match cs, hlen, xs, hxl with
  | [v0, v1, v2, v3], _, [y0, y1, y2, y3], _ =>
    have e0 : DataW.trod enc Try.prog w base spare held n 4 [v0] = some y0 := e0
    have e1 : DataW.trod enc Try.prog w base spare held n 3 [v1] = some y1 := e1
    have e2 : DataW.trod enc Try.prog w base spare held n 3 [v2] = some y2 := e2
    have e3 : DataW.trod enc Try.prog w base spare held n 22 [v3] = some y3 := e3
    obtain ⟨b0, hb, _⟩ := DataW.trod_bool Try.underlying4 e0
    obtain ⟨i1, hi1, _, _⟩ := DataW.trod_int Try.underlying3 e1
    obtain ⟨i2, hi2, _, _⟩ := DataW.trod_int Try.underlying3 e2
    obtain ⟨p, hp, hok, hbk⟩ := read_bytesB e3
    cases hb
    cases hi1
    cases hi2
    cases hp
    refine ⟨⟨b0, i1, i2, p⟩, rfl, hok, ?_⟩
    rw [hx]
    simp only [Rows.uptoBulk, List.map_cons, List.map_nil, Rows.uptoBulkAll]
    show p.n ≤ _
    omega
theorem read_ops {fuel : Nat} {cs : List Value} {x : DataW H × List MemPlace} (h : DataW.trod enc Try.prog w base spare held fuel 23 cs = some x) : ∃ A n c, ∃ l : List OP, cs = [.slice A n c] ∧ Rs w 4 A n c (l.flatMap opf) ∧ OkO w l ∧ ∀ o ∈ l, o.p.n ≤ Rows.uptoBulk x.1 := by
  obtain ⟨A, n, c, l, h1, h2, h3, h4, h5⟩ := read_rowNB opf (fun o => o.p.ok w) (fun o => o.p.n) 4 Try.underlying23 (by kernel_rfl) (by decide) opf_len (fun k cs x hl hx => by
    obtain ⟨o, ho, h6, h7⟩ := read_op hl hx
    exact ⟨o, ho, h6, h7⟩) h
  refine ⟨A, n, c, l, h1, h2, h3, fun o ho => ?_⟩
  have : o.p.n ≤ (l.map fun o => o.p.n).sum := by
    clear h1 h2 h3 h4 h5
    induction l with
    | nil => cases ho
    | cons y l ih =>
      rw [List.map_cons, List.sum_cons]
      rcases List.mem_cons.1 ho with rfl | ho
      · omega
      · have := ih ho; omega
  omega
theorem open_script {r : Reach} {b0 : Nat} {v : Value} {d : DataW H} {p : List MemPlace} (hv : Value.okWide Try.prog w r b0 25 v) (h : DataW.Trod enc Try.prog w base spare held 25 v d p) :
    ∃ (b t : Int), ∃ A n c, ∃ l : List OP, v = .agg (scA b t A n c) ∧ Rs w 4 A n c (l.flatMap opf) ∧ OkO w l ∧ ∀ o ∈ l, o.p.n ≤ Rows.uptoBulk d := by
  obtain ⟨cs, rfl, hsz⟩ := okWide_struct Try.underlying25 hv
  obtain ⟨fuel, hf⟩ := h
  have c25 : Try.prog.cellsOf 25 = 3 := by kernel_rfl
  obtain ⟨v0, v1, v2, y0, y1, y2, k, hcs, hx, e0, e1, e2⟩ := read_struct3 Try.underlying25 rfl rfl rfl (by kernel_rfl) (by kernel_rfl) (by kernel_rfl) (by show cs.toList.length = 3; rw [Array.length_toList]; omega) hf
  obtain ⟨i0, h0, _, _⟩ := DataW.trod_int Try.underlying3 e0
  obtain ⟨i1, h1, _, _⟩ := DataW.trod_int Try.underlying3 e1
  obtain ⟨A, n, c, l, h2, h3, h4, h5⟩ := read_ops e2
  cases h0
  cases h1
  cases h2
  have hcs' : cs.toList = [.int .i64 i0, .int .i64 i1, .slice A n c] := hcs
  refine ⟨i0, i1, A, n, c, l, ?_, h3, h4, fun o ho => ?_⟩
  · rw [show cs = scA i0 i1 A n c by unfold scA; rw [← hcs']]
  · have hx' : d = .agg [y0.1, y1.1, y2.1] := hx
    rw [hx']
    simp only [Rows.uptoBulk, Rows.uptoBulkAll]
    have := h5 o ho
    omega
theorem applies_law (A : Option Addr) (n c : Nat) (a : List UInt8) (b t : Int) (B : Option Addr) (m d : Nat) (l : List OP) (w0 : World) (ha : Rs w0 1 A n c (bL a)) (hl : Rs w0 4 B m d (l.flatMap opf)) (hok : OkO w0 l) (hbig : ∀ o ∈ l, o.p.n ≤ 70368744177000) :
    Calls Try.prog 3 #[.slice A n c, .agg (scA b t B m d)] w0 fun e w' => e = .returned (.bool true) ∧ Below w0.heap.size w0 w' :=
  (lapplies A n c a B m d l b t w0 ha hl hok hbig).mono fun e w' ⟨u, h1, h2, h3⟩ => by subst h3; exact ⟨h1, h2⟩
end
end Go.Proofs.Ytpcgldkllnkaeaa
