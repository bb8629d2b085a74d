import Derived.Test.YtcbnhmcfdpcbhaaMgTakesW3
import Derived.Test.YtcbnhmcfdpcbhaaMgTakesW1
import Derived.SizedLaws

/-
  The law OctetTakes.
-/
namespace Go.Proofs.Ytcbnhmcfdpcbhaa
open Go.RowKit Zk Zx
set_option linter.unusedVariables false
set_option linter.unusedSimpArgs false

structure TakeR where
  d : Int
  x : Nat
  m : Int
def tf (p : TakeR) : List Value := [.int .i64 p.d, .int .u64 (p.x : Int), .int .i64 p.m]
theorem tf_len (p : TakeR) : (tf p).length = 3 := rfl


set_option maxRecDepth 100000 in
theorem takes (B : Option Addr) (nb cb : Nat) (bl : List UInt8) (L : Option Addr) (n c0 : Nat) (l : List TakeR) (w0 : World) (hb : Rs w0 1 B nb cb (bL bl)) (hnb : nb ≤ 140737488351232) (hln : l.length = n) (hl : Rs w0 3 L n c0 (l.flatMap tf)) (hm : ∀ (k : Nat) (p : TakeR), l[k]? = some p → p.m ≤ 9223372036854775807) :
    Calls Try.prog 5 #[.slice B nb cb, .slice L n c0] w0 fun e w' => ∃ u, e = .returned u ∧ Like w0 w' ∧ u = .bool true := by
  refine enter1 (env := [(0, .slice B nb cb), (1, .slice L n c0)]) [.slice B nb cb, .slice L n c0] Try.func5 rfl Try.ntmps5 rfl rfl ?_
  have hbl := hb.lenb; have hnc := hl.cap; have hnm := hl.max; have hbc := hb.cap; have S0 := St.start w0 noM
  refine T_seq fun K1 hK1 => ?_
  refine T_region ?_
  refine L_y (y_assign rfl) rfl ?_
  refine L_nil ?_
  refine hK1 _ _ ?_
  refine T_seq fun K2 hK2 => ?_
  refine T_region ?_
  refine L_o (o_bsl0 te25 S0 rfl fun b1 w1 l1 S1 => ?_)
  refine L_y (y_move rfl) rfl ?_
  refine L_o (o_app te25 S1 0 rfl rfl rfl (S1.rd hb) (bL_one _) rfl (by omega) (by omega) fun A2 c2 w2 S2 => ?_)
  refine L_y (y_assign rfl) rfl ?_
  refine L_nil ?_
  refine hK2 _ _ ?_
  refine T_seq fun K3 hK3 => ?_
  refine T_region ?_
  refine L_y (y_move rfl) rfl ?_
  have hsz := S2.size
  refine L_o (o_call Try.func15 rfl rfl (rnew _ _ _ bl w2 (S2.row 0 rfl) (by omega)) rfl rfl ?_)
  rintro e3 w3 ⟨v3, rfl, l3, g1, A1, c1, rfl, hh3, dd1⟩
  refine ⟨_, rfl, ?_⟩
  have S3 := S2.new l3 _ hh3 dd1
  refine L_y (y_assign rfl) rfl ?_
  refine L_nil ?_
  refine hK3 _ _ ?_
  refine T_seq fun K4 hK4 => ?_
  refine T_region ?_
  refine L_y (y_move rfl) rfl ?_
  refine L_y (y_build rfl (show _ = some #[Value.slice B nb cb, Value.int .i64 0, Value.int .i64 0] by kernel_rfl)) rfl ?_
  refine L_o (o_box rfl S3 rfl fun b4 w4 hb4 S4 => ?_)
  have hap := St.apart_ S4 1 2 rfl rfl rfl
  have S5 := St.join2 (rs := [_]) (r := rdr g1 A1 (0 + nb) c1 bl 0 0) (s := xr b4 B nb cb 0 0) S4
  have hbg : ∀ ad, 0 < nb → B = some ad → ad.block ≠ b4 := fun ad h1 h2 h3 => by have := old_block hb h1 h2; omega
  have hbr : ∀ ad, 0 < nb → B = some ad → ¬ (rdr g1 A1 (0 + nb) c1 bl 0 0).dom ad.block := fun ad h1 h2 h3 => by have := old_block hb h1 h2; have := (dd1 _ h3).1; omega
  refine L_y (y_assign rfl) rfl ?_
  refine L_nil ?_
  refine hK4 _ _ ?_
  refine T_seq fun K5 hK5 => ?_
  refine T_seq fun K6 hK6 => ?_
  refine T_region ?_
  refine L_y (y_assign rfl) rfl ?_
  refine L_nil ?_
  refine hK6 _ _ ?_
  refine T_block ?_
  refine T_loop3 [(0, _), (1, _), (5, _), (6, _), (7, _)] (fun (k : Nat) (p0 : Nat) (q0 : Nat) => [(8, .int .i64 (k : Int))]) (fun (k : Nat) (p0 : Nat) (q0 : Nat) => n - k) (fun (k : Nat) (p0 : Nat) (q0 : Nat) (w : World) => k ≤ n ∧ p0 ≤ bl.length ∧ St w0 noM [row 5 1 A2 (0 + nb) c2 ([] ++ bL bl), both (rdr g1 A1 (0 + nb) c1 bl p0 q0) (xr b4 B nb cb p0 q0)] w) 0 0 0 (Sub.cons rfl (by first | rfl | exact congrArg (Value.int _) (by omega)) (Sub.nil _)) (Sub.cons rfl rfl (Sub.cons rfl rfl (Sub.cons rfl rfl (Sub.cons rfl rfl (Sub.cons rfl rfl (Sub.nil _)))))) ?_ ?_
  ·
    exact ⟨Nat.zero_le _, Nat.zero_le _, S5⟩
  ·
    intro k p0 q0 w6 hrel
    obtain ⟨hk, hp0, S6⟩ := hrel
    refine T_seq fun K7 hK7 => ?_
    refine T_seq fun K8 hK8 => ?_
    refine T_region ?_
    refine L_y (y_move rfl) rfl ?_
    refine L_y (y_move rfl) rfl ?_
    refine L_y (y_len Try.underlying45 rfl) rfl ?_
    refine L_y (y_lss rfl rfl) rfl ?_
    refine L_nil ?_
    refine hK8 _ _ ?_
    refine T_cond rfl (fun h20 => ?_) (fun h20 => ?_)
    ·
      obtain ⟨p, hp⟩ : ∃ p, l[k]? = some p := ⟨_, List.getElem?_eq_getElem (by omega)⟩
      refine T_skip ?_
      refine hK7 _ _ ?_
      refine T_seq fun K9 hK9 => ?_
      refine T_block ?_
      refine T_seq fun K10 hK10 => ?_
      refine T_region ?_
      refine L_y (y_move rfl) rfl ?_
      refine L_y (y_move rfl) rfl ?_
      refine L_y (y_move rfl) rfl ?_
      refine L_y (y_move rfl) rfl ?_
      refine L_y (y_idx Try.underlying45 sz51 rfl rfl (S6.rd hl) inferInstance (by omega)) rfl ?_
      refine L_y (y_ldp (f := tf) (y := p) tf_len Try.underlying51 rfl sz51 rfl (S6.rd hl) (by omega) hp) rfl ?_
      refine L_o (o_call Try.func23 rfl rfl (took g1 A1 (0 + nb) c1 _ B nb cb bl p0 q0 p.d p.x p.m w6 (S6.get 1 rfl).1 (S6.get 1 rfl).2 hap (S6.rd hb) hp0 (by omega) (hm _ _ hp) hbg hbr) rfl rfl ?_)
      rintro e7 w7 ⟨v7, rfl, rfl, p9, q9, hp9, T7⟩
      refine ⟨_, rfl, ?_⟩
      have S7 := S6.turn 1 rfl T7
      refine L_y ((by first | exact y_notD rfl | exact y_not rfl)) rfl ?_
      refine L_nil ?_
      refine hK10 _ _ ?_
      refine T_false rfl ?_
      refine T_skip ?_
      refine hK9 _ _ ?_
      refine T_region ?_
      refine L_y (y_move rfl) rfl ?_
      refine L_y (y_add rfl rfl (i64w (by omega))) rfl ?_
      refine L_y (y_assign rfl) rfl ?_
      refine L_nil ?_
      refine ⟨k + 1, p9, q9, by omega, ⟨by omega, hp9, S7⟩, ?_⟩
      exact (Sub.cons rfl (by first | rfl | exact congrArg (Value.int _) (by omega)) (Sub.cons rfl rfl (Sub.cons rfl rfl (Sub.cons rfl rfl (Sub.cons rfl rfl (Sub.cons rfl rfl (Sub.nil _)))))))
    ·
      refine T_exit ?_
      refine hK5 _ _ ?_
      refine T_seq fun K11 hK11 => ?_
      refine T_region ?_
      refine L_y (y_move rfl) rfl ?_
      refine L_y (y_move rfl) rfl ?_
      refine L_o (o_call Try.func12 rfl rfl (same _ _ _ _ _ _ _ _ w6 (S6.row 0 rfl) (S6.rd hb)) rfl rfl ?_)
      rintro e8 w8 ⟨v8, rfl, l8, rfl⟩
      refine ⟨_, rfl, ?_⟩
      have S8 := S6.like l8
      refine L_y (y_move rfl) rfl ?_
      refine L_split 34 rfl (fun h34 => ?_) (fun h34 => ?_)
      ·
        refine L_gyes rfl rfl ?_
        refine L_o (o_call Try.func14 rfl rfl (works w8) rfl rfl ?_)
        rintro e10 w10 ⟨v10, rfl, l10, rfl⟩
        refine ⟨_, rfl, ?_⟩
        have S10 := S8.like l10
        refine L_y (y_pk rfl rfl) rfl ?_
        refine L_y (y_assign rfl) rfl ?_
        refine L_nil ?_
        refine hK11 _ _ ?_
        refine T_ret ?_
        refine ur ?_
        refine ret1 rfl rfl ?_
        first | exact ⟨_, rfl, S10.like0, rfl⟩ | (exfalso; simp at h34)
      ·
        refine L_gno rfl rfl rfl ?_
        refine L_y (y_pk rfl rfl) rfl ?_
        refine L_y (y_assign rfl) rfl ?_
        refine L_nil ?_
        refine hK11 _ _ ?_
        refine T_ret ?_
        refine ur ?_
        refine ret1 rfl rfl ?_
        first | exact ⟨_, rfl, S8.like0, rfl⟩ | (exfalso; simp at h34)
end Go.Proofs.Ytcbnhmcfdpcbhaa


/-
  The law OctetLays.
-/
namespace Go.Proofs.Ytcbnhmcfdpcbhaa
open Go.RowKit Zk Zx
set_option linter.unusedVariables false
set_option linter.unusedSimpArgs false

end Go.Proofs.Ytcbnhmcfdpcbhaa


/-
  The law's argument: a list of calls, opened.
-/
namespace Go.Proofs.Ytcbnhmcfdpcbhaa
open Go.RowKit Zk Zx
open Go.ChangeShapes Go.WideShapes Go.ChangeAt Go.Deep
set_option linter.unusedVariables false
section
variable {H : Type} {enc : TypeId × Value → H} {w : World} {base : Nat} {spare : Nat → Bool} {held : Bool}
theorem u64_of (a : Int) (h : (Lit.int .u64 a).wf = true) : ∃ x : Nat, a = (x : Int) ∧ x ≤ 18446744073709551615 := by
  have hx : 0 ≤ a ∧ a ≤ 18446744073709551615 := by simpa [Lit.wf, IntKind.min, IntKind.max, IntKind.signed, IntKind.bits] using h
  exact ⟨a.toNat, by omega, by omega⟩
end
end Go.Proofs.Ytcbnhmcfdpcbhaa


/-
  The law's argument: a list of reads, opened.
-/
namespace Go.Proofs.Ytcbnhmcfdpcbhaa
open Go.RowKit Zk Zx
open Go.ChangeShapes Go.WideShapes Go.ChangeAt Go.Deep
set_option linter.unusedVariables false
section
variable {H : Type} {enc : TypeId × Value → H} {w : World} {base : Nat} {spare : Nat → Bool} {held : Bool}
theorem read_take (n : Nat) (cs : List Value) (x : DataW H × List MemPlace) (hl : cs.length = 3) (h : DataW.trod enc Try.prog w base spare held n 51 cs = some x) :
    ∃ p : TakeR, cs = tf p ∧ p.m ≤ 9223372036854775807 ∧ 1 ≤ Rows.uptoBulk x.1 := by
  obtain ⟨v0, v1, v2, y0, y1, y2, k, rfl, hx, h0, h1, h2⟩ := read_struct3 Try.underlying51 rfl rfl rfl (by kernel_rfl) (by kernel_rfl) (by kernel_rfl) hl h
  obtain ⟨a, e0, z0, g0⟩ := DataW.trod_int Try.underlying3 h0
  obtain ⟨b, e1, z1, g1⟩ := DataW.trod_int Try.underlying27 h1
  obtain ⟨s, e2, z2, g2⟩ := DataW.trod_int Try.underlying3 h2
  obtain ⟨c, rfl, hc⟩ := u64_of b g1
  simp only [List.cons.injEq, and_true] at e0 e1 e2
  subst e0
  subst e1
  subst e2
  have hs : -9223372036854775808 ≤ s ∧ s ≤ 9223372036854775807 := by simpa [Lit.wf, IntKind.min, IntKind.max, IntKind.signed, IntKind.bits] using g2
  exact ⟨⟨a, c, s⟩, rfl, hs.2, bulk_pos _⟩
theorem open_takes {r : Reach} {b0 : Nat} {v : Value} {d : DataW H} {p : List MemPlace}
    (hv : Value.okWide Try.prog w r b0 45 v) (h : DataW.Trod enc Try.prog w base spare held 45 v d p) : ∃ A n c, ∃ l : List TakeR, v = .slice A n c ∧ Rs w 3 A n c (l.flatMap tf) ∧ (∀ y ∈ l, y.m ≤ 9223372036854775807) ∧ l.length = n := by
  obtain ⟨fuel, hf⟩ := h
  obtain ⟨A, n, c, l, h1, h2, h3, h4, h5⟩ := read_rowNB tf (fun y => y.m ≤ 9223372036854775807) (fun _ => 1) 3 Try.underlying45 (by kernel_rfl) (by decide) tf_len (fun k cs x hl hx => read_take k cs x hl hx) hf
  exact ⟨A, n, c, l, slice_of_cells Try.underlying45 hv h1, h2, h3, h4⟩
end
theorem takes_small (B : Option Addr) (nb cb : Nat) (bl : List UInt8) (L : Option Addr) (n c0 : Nat) (l : List TakeR) (w0 : World) (hb : Rs w0 1 B nb cb (bL bl)) (hnb : nb ≤ 140737488351232) (hl : Rs w0 3 L n c0 (l.flatMap tf)) (hm : ∀ y ∈ l, y.m ≤ 9223372036854775807) (hln : l.length = n) :
    Calls Try.prog 5 #[.slice B nb cb, .slice L n c0] w0 fun e w' => e = .returned (.bool true) ∧ Below w0.heap.size w0 w' :=
  (takes B nb cb bl L n c0 l w0 hb hnb hln hl (fun k p hp => hm p (List.mem_of_getElem? hp))).mono fun e w' ⟨u, h1, h2, h3⟩ => by subst h3; exact ⟨h1, h2⟩
end Go.Proofs.Ytcbnhmcfdpcbhaa


/-
  A slice of elements of many cells, each with what is known of its datum; the reach of the parts. General; nothing here names a program.
-/
namespace Go.Proofs.Ytcbnhmcfdpcbhaa.Zx
open Go.ChangeShapes Go.WideShapes Go.ChangeAt Go.RowKit Go.Deep Zk
set_option linter.unusedVariables false
section
variable {H : Type} {enc : TypeId × Value → H} {P : Program} {w : World} {base : Nat} {spare : Nat → Bool} {held : Bool}
theorem read_rowNP {α : Type} (f : α → List Value) (φ : α → DataW H → Prop) (size : Nat) {t e : TypeId} (ht : P.underlying t = some (.slice e)) (hc : P.cellsOf e = size) (hpos : 0 < size) (hlen : ∀ y, (f y).length = size)
    (hread : ∀ n cs x, cs.length = size → DataW.trod enc P w base spare held n e cs = some x → ∃ y, cs = f y ∧ φ y x.1)
    {fuel : Nat} {cs : List Value} {x : DataW H × List MemPlace} (h : DataW.trod enc P w base spare held fuel t cs = some x) :
    ∃ A n c, ∃ l : List α, cs = [.slice A n c] ∧ Rs w size A n c (l.flatMap f) ∧ l.length = n ∧ (∀ y ∈ l, ∃ d : DataW H, φ y d ∧ ∀ k ∈ d.weights P e, k ∈ x.1.weights P t) ∧ (n = 0 ∨ ∃ k, n ≤ k ∧ k * P.bytesOf e ∈ x.1.weights P t) := by
  rcases open_slice ht h with ⟨rfl, rfl⟩ | ⟨a, len, cap, k, n, D, Pl, rfl, _, hl, hm, hmm, rfl, hi⟩
  · exact ⟨none, 0, 0, [], rfl, Rs.nil w size, rfl, (fun y hy => by cases hy), .inl rfl⟩
  · have hle : len ≤ k := by rw [hmm]; split <;> omega
    rw [hc] at hi
    obtain ⟨l, hll, hp⟩ := list_of (fun i (y : α) => w.cells? base (a.add (i * size)) size = some (f y) ∧ φ y (D i)) len (fun i hil => by
      obtain ⟨cs', h1, h2⟩ := hi i (by omega)
      obtain ⟨y, h3, h4⟩ := hread n cs' _ (World.cells?_some h1).2.1 h2
      exact ⟨y, by rw [← h3]; exact h1, h4⟩)
    refine ⟨some a, len, cap, l, rfl, ⟨⟨by rw [flat_len f size hlen, hll], fun h0 => ⟨a, rfl, ?_, fun j u hu => ?_⟩⟩, hl, by unfold maxLen at hm; exact hm⟩, hll, fun y hy => ?_, .inr ⟨len + (k - len), by omega, by simp [DataW.weights, ht]⟩⟩
    · obtain ⟨cs', h1, h2⟩ := hi 0 (by omega)
      have h3 := (World.cells?_some h1).2.2 0 hpos
      rw [List.getElem?_eq_getElem (by rw [(World.cells?_some h1).2.1]; exact hpos)] at h3
      have := World.block_lt_of_cell? w _ h3
      rwa [block_of_add, block_of_add] at this
    · obtain ⟨i, y, h1, h2, h3⟩ := flat_get f size hlen l j u hu
      have h4 := (World.cells?_some (hp i y h1).1).2.2 (j - i * size) (by have := (List.getElem?_eq_some_iff.1 h3).1; rwa [hlen y] at this)
      rw [Go.Deep.add_add, show i * size + (j - i * size) = j by omega, h3] at h4
      exact h4
    · obtain ⟨i, hi2, rfl⟩ := List.getElem_of_mem hy
      refine ⟨D i, (hp i _ (List.getElem?_eq_getElem hi2)).2, fun q hq => ?_⟩
      have hin : ∀ (m : List (DataW H)) (d : DataW H), d ∈ m → ∀ q ∈ d.weights P e, q ∈ DataW.weightsAll P e m := by
        intro m
        induction m with
        | nil => intro d hd; cases hd
        | cons d0 m ih =>
          intro d hd q hq
          simp only [DataW.weightsAll, List.mem_append]
          rcases List.mem_cons.1 hd with rfl | hd
          · exact .inl hq
          · exact .inr (ih d hd q hq)
      simp only [DataW.weights, ht, List.mem_cons, List.mem_append]
      refine .inr (.inl (hin _ (D i) ?_ q hq))
      exact List.mem_map.2 ⟨i, by simp; omega, rfl⟩
/-- A slice of bytes, with its reach. -/
theorem open_bytesSW {r : Reach} {b0 : Nat} {t e : TypeId} {v : Value} {d : DataW H} {p : List MemPlace} (ht : P.underlying t = some (.slice e)) (he : P.underlying e = some (.int .u8)) (hc : P.cellsOf e = 1)
    (hv : Value.okWide P w r b0 t v) (h : DataW.Trod enc P w base spare held t v d p) : ∃ A n c l, v = .slice A n c ∧ Rs w 1 A n c (bL l) ∧ (n = 0 ∨ ∃ k, n ≤ k ∧ k * P.bytesOf e ∈ d.weights P t) := by
  obtain ⟨fuel, hf⟩ := h
  obtain ⟨A, n, c, l, h1, h2, _, _, h5⟩ := read_rowNP (fun y => [bV y]) (fun _ _ => True) 1 ht hc (by decide) (fun _ => rfl) (fun k cs x hl hx => by
    obtain ⟨a, ha, _, hw⟩ := DataW.trod_int he hx
    obtain ⟨c, rfl⟩ := u8_of a hw
    exact ⟨c, ha, trivial⟩) hf
  exact ⟨A, n, c, l, slice_of_cells ht hv h1, by rwa [flat_one] at h2, h5⟩
/-- What is weighed of an argument is within the reach. -/
theorem reach_mem {ts : List TypeId} {ds : List (DataW H)} (hsz : (DataW.weightsEach P ts ds).all (· ≤ reachBytes) = true) {j : Nat} {t : TypeId} {d : DataW H} (ht : ts[j]? = some t) (hd : ds[j]? = some d) {n : Nat} (h : n ∈ d.weights P t) : n ≤ 140737488351232 :=
  of_decide_eq_true (List.all_eq_true.1 hsz _ (DataW.weights_mem_each ht hd _ h))
/-- A slice among the arguments is within the reach. -/
theorem reach_of {ts : List TypeId} {ds : List (DataW H)} (hsz : (DataW.weightsEach P ts ds).all (· ≤ reachBytes) = true) {j : Nat} {t e : TypeId} {d : DataW H} (ht : ts[j]? = some t) (hd : ds[j]? = some d) (hb : P.bytesOf e = 1) {n : Nat} (h : n = 0 ∨ ∃ k, n ≤ k ∧ k * P.bytesOf e ∈ d.weights P t) : n ≤ 140737488351232 := by
  rcases h with rfl | ⟨k, h1, h2⟩
  · omega
  · have := reach_mem hsz ht hd h2
    rw [hb, Nat.mul_one] at this
    omega
end
end Go.Proofs.Ytcbnhmcfdpcbhaa.Zx
