/-
  The law's argument: a list of reads, opened.
-/
import Derived.Test.YtcbnhmcfdpcbhaaO
import Derived.Test.YtcbnhmcfdpcbhaaG
namespace Go.Proofs.Ytcbnhmcfdpcbhaa
open Go.RowKit Zk Zx
open Go.ChangeShapes Go.WideShapes Go.ChangeAt Go.Deep
set_option linter.unusedVariables false
section
variable {H : Type} {enc : TypeId × Value → H} {w : World} {base : Nat} {spare : Nat → Bool} {held : Bool}
theorem read_take (n : Nat) (cs : List Value) (x : DataW H × List MemPlace) (hl : cs.length = 3) (h : DataW.trod enc Try.prog w base spare held n 51 cs = some x) :
    ∃ p : TakeR, cs = tf p ∧ p.m ≤ 9223372036854775807 ∧ 1 ≤ Rows.uptoBulk x.1 := by
  obtain ⟨v0, v1, v2, y0, y1, y2, k, rfl, hx, h0, h1, h2⟩ := read_struct3 Try.underlying51 rfl rfl rfl (by kernel_rfl) (by kernel_rfl) (by kernel_rfl) hl h
  obtain ⟨a, e0, z0, g0⟩ := DataW.trod_int Try.underlying3 h0
  obtain ⟨b, e1, z1, g1⟩ := DataW.trod_int Try.underlying27 h1
  obtain ⟨s, e2, z2, g2⟩ := DataW.trod_int Try.underlying3 h2
  obtain ⟨c, rfl, hc⟩ := u64_of b g1
  simp only [List.cons.injEq, and_true] at e0 e1 e2
  subst e0
  subst e1
  subst e2
  have hs : -9223372036854775808 ≤ s ∧ s ≤ 9223372036854775807 := by simpa [Lit.wf, IntKind.min, IntKind.max, IntKind.signed, IntKind.bits] using g2
  exact ⟨⟨a, c, s⟩, rfl, hs.2, bulk_pos _⟩
theorem open_takes {r : Reach} {b0 : Nat} {v : Value} {d : DataW H} {p : List MemPlace}
    (hv : Value.okWide Try.prog w r b0 45 v) (h : DataW.Trod enc Try.prog w base spare held 45 v d p) : ∃ A n c, ∃ l : List TakeR, v = .slice A n c ∧ Rs w 3 A n c (l.flatMap tf) ∧ (∀ y ∈ l, y.m ≤ 9223372036854775807) ∧ l.length = n := by
  obtain ⟨fuel, hf⟩ := h
  obtain ⟨A, n, c, l, h1, h2, h3, h4, h5⟩ := read_rowNB tf (fun y => y.m ≤ 9223372036854775807) (fun _ => 1) 3 Try.underlying45 (by kernel_rfl) (by decide) tf_len (fun k cs x hl hx => read_take k cs x hl hx) hf
  exact ⟨A, n, c, l, slice_of_cells Try.underlying45 hv h1, h2, h3, h4⟩
end
theorem takes_small (B : Option Addr) (nb cb : Nat) (bl : List UInt8) (L : Option Addr) (n c0 : Nat) (l : List TakeR) (w0 : World) (hb : Rs w0 1 B nb cb (bL bl)) (hnb : nb ≤ 1048576) (hl : Rs w0 3 L n c0 (l.flatMap tf)) (hm : ∀ y ∈ l, y.m ≤ 9223372036854775807) (hln : l.length = n) :
    Calls Try.prog 5 #[.slice B nb cb, .slice L n c0] w0 fun e w' => e = .returned (.bool true) ∧ Below w0.heap.size w0 w' :=
  (takes B nb cb bl L n c0 l w0 hb hnb hln hl (fun k p hp => hm p (List.mem_of_getElem? hp))).mono fun e w' ⟨u, h1, h2, h3⟩ => by subst h3; exact ⟨h1, h2⟩
end Go.Proofs.Ytcbnhmcfdpcbhaa
