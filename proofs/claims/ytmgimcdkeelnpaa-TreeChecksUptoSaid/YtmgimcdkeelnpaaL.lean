/-
  The law TreeChecks.
-/
import Derived.Test.YtmgimcdkeelnpaaK
import Derived.Test.YtmgimcdkeelnpaaZu
namespace Go.Proofs.Ytmgimcdkeelnpaa
open Go.RowKit Zk Zx
set_option linter.unusedVariables false
set_option linter.unusedSimpArgs false

section
open Go.ChangeShapes Go.WideShapes Go.ChangeAt Go.Deep
variable {H : Type} {enc : TypeId × Value → H} {w : World} {base : Nat} {spare : Nat → Bool} {held : Bool}
/-- An entry as it is read. -/
structure EW where
  nm : ByteArray
  md : Int
  id : List UInt8
  h : id.length = 32
def ewf (e : EW) : List Value := Value.string e.nm :: Value.int .i64 e.md :: bL e.id
theorem ewf_len (e : EW) : (ewf e).length = 34 := by simp [ewf, e.h]
theorem read_ew {fuel : Nat} {cs : List Value} {x : DataW H × List MemPlace} (hlen : cs.length = 34) (h : DataW.trod enc Try.prog w base spare held fuel 39 cs = some x) : ∃ e : EW, cs = ewf e ∧ e.nm.size ≤ Rows.uptoBulk x.1 := by
  obtain ⟨xs, n, _, hx, hl, hlen2, hg⟩ := DataW.trod_struct Try.underlying39 h
  have e0 := hg 0 _ rfl
  have e1 := hg 1 _ rfl
  have e2 := hg 2 _ rfl
  change DataW.trod enc Try.prog w base spare held n 9 ((cs.drop 0).take (Try.prog.cellsOf 9)) = _ at e0
  change DataW.trod enc Try.prog w base spare held n 3 ((cs.drop 1).take (Try.prog.cellsOf 3)) = _ at e1
  change DataW.trod enc Try.prog w base spare held n 37 ((cs.drop 2).take (Try.prog.cellsOf 37)) = _ at e2
  have c9 : Try.prog.cellsOf 9 = 1 := by kernel_rfl
  have c3 : Try.prog.cellsOf 3 = 1 := by kernel_rfl
  have c37 : Try.prog.cellsOf 37 = 32 := by kernel_rfl
  rw [c9] at e0
  rw [c3] at e1
  rw [c37] at e2
  have hxl : xs.length = 3 := hlen2
  match cs, hlen, xs, hxl with
  | v0 :: v1 :: vs, hlen, [y0, y1, y2], _ =>
    have e0 : DataW.trod enc Try.prog w base spare held n 9 [v0] = some y0 := e0
    have e1 : DataW.trod enc Try.prog w base spare held n 3 [v1] = some y1 := e1
    have e2 : DataW.trod enc Try.prog w base spare held n 37 (vs.take 32) = some y2 := e2
    rw [List.take_of_length_le (by simp at hlen; omega)] at e2
    obtain ⟨s, hs, z0, _⟩ := DataW.trod_string Try.underlying9 e0
    obtain ⟨i1, hi1, _, _⟩ := DataW.trod_int Try.underlying3 e1
    obtain ⟨z, hz, hcs⟩ := read_bytes Try.underlying37 Try.underlying5 (by kernel_rfl) (by kernel_rfl) e2
    cases hs
    cases hi1
    subst hcs
    refine ⟨⟨s, i1, z, hz⟩, rfl, ?_⟩
    rw [hx]
    simp only [Rows.uptoBulk, List.map_cons, List.map_nil, Rows.uptoBulkAll]
    rw [z0]
    simp only [Rows.uptoBulk, Array.length_toList]
    show s.data.size ≤ _
    omega
theorem open_ens {r : Reach} {b0 : Nat} {v : Value} {d : DataW H} {p : List MemPlace} (hv : Value.okWide Try.prog w r b0 22 v) (h : DataW.Trod enc Try.prog w base spare held 22 v d p) :
    ∃ A n c, ∃ l : List EW, v = .slice A n c ∧ Rs w 34 A n c (l.flatMap ewf) ∧ (l.map fun e => e.nm.size).sum + 1 ≤ Rows.uptoBulk d := by
  obtain ⟨fuel, hf⟩ := h
  obtain ⟨A, n, c, l, h1, h2, h3, h4, h5⟩ := read_rowNB ewf (fun _ => True) (fun e => e.nm.size) 34 Try.underlying22 (by kernel_rfl) (by decide) ewf_len (fun k cs x hl hx => by
    obtain ⟨o, ho, h7⟩ := read_ew hl hx
    exact ⟨o, ho, trivial, h7⟩) hf
  exact ⟨A, n, c, l, slice_of_cells Try.underlying22 hv h1, h2, h5⟩
theorem ew_ev : ∀ (l : List EW), (l.map fun e => e.nm.size).sum ≤ 1048576 → ∃ l2 : List EV, l.flatMap ewf = l2.flatMap enf ∧ (∀ e ∈ l2, e.nm.size ≤ 1048576) ∧ l2.length = l.length
  | [], _ => ⟨[], rfl, fun e he => (by cases he), rfl⟩
  | e :: l, h => by
    rw [List.map_cons, List.sum_cons] at h
    obtain ⟨l2, h1, h2, h3⟩ := ew_ev l (by omega)
    refine ⟨⟨e.nm, e.md, e.id, e.h, by omega⟩ :: l2, ?_, fun x hx => ?_, by rw [List.length_cons, List.length_cons, h3]⟩
    · rw [List.flatMap_cons, List.flatMap_cons, h1]
      rfl
    · rcases List.mem_cons.1 hx with rfl | hx
      · show e.nm.size ≤ _
        omega
      · exact h2 x hx
end
def wE1 : EV := ⟨⟨#[97]⟩, 3, List.replicate 32 0, by decide⟩
def wE2 : EV := ⟨⟨#[97, 48]⟩, 1, List.replicate 32 0, by decide⟩
def wE3 : EV := ⟨⟨#[97, 46, 98]⟩, 1, List.replicate 32 0, by decide⟩
theorem ltK_bl : ltK = fun x y => bl (keyB x).data.toList (keyB y).data.toList := by funext x y; exact sLt_bl _ _
theorem wsrt : srt ltK [wE1, wE2, wE3] = [wE3, wE1, wE2] := by
  rw [ltK_bl]
  decide +kernel
theorem wchk : chkE [wE3, wE1, wE2] = 0 := by
  refine chkE_ok (by decide) (by decide +kernel) (by decide +kernel) ?_
  show (ltK wE3 wE1 && (ltK wE1 wE2 && true)) = true
  rw [ltK_bl]
  decide +kernel
theorem psortedW (A : Option Addr) (c : Nat) (w0 : World) (hl : Rs w0 34 A 3 c ([wE1, wE2, wE3].flatMap enf)) :
    Calls Try.prog 9 #[.slice A 3 c] w0 fun e w' => ∃ u, e = .returned u ∧ Like w0 w' ∧ ∃ A' c', u = .slice A' 3 c' ∧ w'.ownsRow w0.heap.size 39 34 (.slice A' 3 c') 3 ([wE3, wE1, wE2].flatMap enf) := by
  have h := psorted A c [wE1, wE2, wE3] w0 hl (by decide)
  rw [wsrt] at h
  exact h


set_option maxRecDepth 100000 in
theorem works  (w0 : World)  :
    Calls Try.prog 8 #[] w0 fun e w' => ∃ u, e = .returned u ∧ Like w0 w' ∧ u = .bool true := by
  refine enter1 (env := []) [] Try.func8 rfl Try.ntmps8 rfl rfl ?_
  have S0 := St.start w0 noM
  refine T_seq fun K1 hK1 => ?_
  refine T_region ?_
  refine L_y (y_assign rfl) rfl ?_
  refine L_nil ?_
  refine hK1 _ _ ?_
  refine T_seq fun K2 hK2 => ?_
  refine T_region ?_
  refine L_y (y_build rfl (show _ = some (enf wE1).toArray by kernel_rfl)) rfl ?_
  refine L_y (y_build rfl (show _ = some (enf wE2).toArray by kernel_rfl)) rfl ?_
  refine L_y (y_build rfl (show _ = some (enf wE3).toArray by kernel_rfl)) rfl ?_
  refine L_o (o_bsl ([wE1, wE2, wE3].flatMap enf) te22 zz39 S0 rfl rfl rfl (by kernel_rfl) (by kernel_rfl) rfl rfl rfl fun b1 w1 S1 => ?_)
  refine L_o (o_call Try.func9 rfl rfl (psortedW _ _ w1 (S1.row 0 rfl)) rfl rfl ?_)
  rintro e2 w2 ⟨v2, rfl, l2, A6, c6, rfl, O2⟩
  refine ⟨_, rfl, ?_⟩
  have S2 := S1.adopt l2 O2
  refine L_y (y_assign rfl) rfl ?_
  refine L_nil ?_
  refine hK2 _ _ ?_
  refine T_seq fun K3 hK3 => ?_
  refine T_region ?_
  refine L_y (y_move rfl) rfl ?_
  refine L_y (y_len Try.underlying22 rfl) rfl ?_
  refine L_y (y_eql rfl rfl) rfl ?_
  refine L_y (y_move rfl) rfl ?_
  refine L_split 10 rfl (fun h10 => ?_) (fun h10 => ?_)
  ·
    refine L_gyes rfl rfl ?_
    refine L_y (y_move rfl) rfl ?_
    refine L_gyes rfl rfl ?_
    refine L_y (y_idx Try.underlying22 sz39 rfl rfl (S2.row 1 rfl) (Nt.mk rfl : Nt _ (0)) (by omega)) rfl ?_
    refine L_gyes rfl rfl ?_
    refine L_y (y_fieldR 0 Try.underlying39 rfl sz9 rfl rfl (S2.row 1 rfl) (by omega) rfl) rfl ?_
    refine L_gyes rfl rfl ?_
    refine L_y (y_ldf Try.underlying9 rfl rfl (S2.row 1 rfl) (by omega) (en_nm (l := [wE3, wE1, wE2]) (k := 0) (x := wE3) rfl)) rfl ?_
    refine L_gyes rfl rfl ?_
    refine L_y (y_seql rfl rfl) rfl ?_
    refine L_y ((by first | exact y_pickT rfl rfl | exact y_pickF rfl rfl)) rfl ?_
    refine L_y (y_move rfl) rfl ?_
    refine L_split 17 rfl (fun h17 => ?_) (fun h17 => ?_)
    ·
      refine L_gyes rfl rfl ?_
      refine L_y (y_move rfl) rfl ?_
      refine L_gyes rfl rfl ?_
      refine L_y (y_idx Try.underlying22 sz39 rfl rfl (S2.row 1 rfl) (Nt.mk rfl : Nt _ (1)) (by omega)) rfl ?_
      refine L_gyes rfl rfl ?_
      refine L_y (y_fieldR 0 Try.underlying39 rfl sz9 rfl rfl (S2.row 1 rfl) (by omega) rfl) rfl ?_
      refine L_gyes rfl rfl ?_
      refine L_y (y_ldf Try.underlying9 rfl rfl (S2.row 1 rfl) (by omega) (en_nm (l := [wE3, wE1, wE2]) (k := 1) (x := wE1) rfl)) rfl ?_
      refine L_gyes rfl rfl ?_
      refine L_y (y_seql rfl rfl) rfl ?_
      refine L_y ((by first | exact y_pickT rfl rfl | exact y_pickF rfl rfl)) rfl ?_
      refine L_y (y_move rfl) rfl ?_
      refine L_split 24 rfl (fun h24 => ?_) (fun h24 => ?_)
      ·
        refine L_gyes rfl rfl ?_
        refine L_y (y_move rfl) rfl ?_
        refine L_gyes rfl rfl ?_
        refine L_y (y_idx Try.underlying22 sz39 rfl rfl (S2.row 1 rfl) (Nt.mk rfl : Nt _ (2)) (by omega)) rfl ?_
        refine L_gyes rfl rfl ?_
        refine L_y (y_fieldR 0 Try.underlying39 rfl sz9 rfl rfl (S2.row 1 rfl) (by omega) rfl) rfl ?_
        refine L_gyes rfl rfl ?_
        refine L_y (y_ldf Try.underlying9 rfl rfl (S2.row 1 rfl) (by omega) (en_nm (l := [wE3, wE1, wE2]) (k := 2) (x := wE2) rfl)) rfl ?_
        refine L_gyes rfl rfl ?_
        refine L_y (y_seql rfl rfl) rfl ?_
        refine L_y ((by first | exact y_pickT rfl rfl | exact y_pickF rfl rfl)) rfl ?_
        refine L_y (y_move rfl) rfl ?_
        refine L_split 31 rfl (fun h31 => ?_) (fun h31 => ?_)
        ·
          refine L_gyes rfl rfl ?_
          refine L_y (y_move rfl) rfl ?_
          refine L_gyes rfl rfl ?_
          refine L_o (o_call Try.func10 rfl rfl (pcheck A6 3 c6 [wE3, wE1, wE2] w2 (S2.row 1 rfl) (by decide)) rfl rfl ?_)
          rintro e7 w7 ⟨v7, rfl, l7, rfl⟩
          refine ⟨_, rfl, ?_⟩
          have S7 := S2.like l7
          rw [wchk]
          refine L_gyes rfl rfl ?_
          refine L_y (y_eql rfl rfl) rfl ?_
          refine L_y ((by first | exact y_pickT rfl rfl | exact y_pickF rfl rfl)) rfl ?_
          refine L_y (y_assign rfl) rfl ?_
          refine L_nil ?_
          refine hK3 _ _ ?_
          refine T_ret ?_
          repeat (first | with_reducible refine up_then ?_ | with_reducible refine up_in ?_)
          refine ret1 rfl rfl ?_
          exact ⟨_, rfl, S7.like0, rfl⟩
        ·
          exact absurd rfl h31
      ·
        exact absurd rfl h24
    ·
      exact absurd rfl h17
  ·
    exact absurd rfl h10


set_option maxRecDepth 100000 in
theorem lchecks (A : Option Addr) (c : Nat) (l : List EV) (w0 : World) (hl : Rs w0 34 A l.length c (l.flatMap enf)) :
    Calls Try.prog 3 #[.slice A l.length c] w0 fun e w' => ∃ u, e = .returned u ∧ Like w0 w' ∧ u = .bool true := by
  refine enter1 (env := [(0, .slice A l.length c)]) [.slice A l.length c] Try.func3 rfl Try.ntmps3 rfl rfl ?_
  have hcap := hl.cap; have hmax := hl.max; have S0 := St.start w0 noM
  refine T_seq fun K1 hK1 => ?_
  refine T_region ?_
  refine L_y (y_assign rfl) rfl ?_
  refine L_nil ?_
  refine hK1 _ _ ?_
  refine T_seq fun K2 hK2 => ?_
  refine T_seq fun K3 hK3 => ?_
  refine T_region ?_
  refine L_y (y_move rfl) rfl ?_
  refine L_y (y_len Try.underlying22 rfl) rfl ?_
  refine L_y (y_gtr rfl rfl) rfl ?_
  refine L_nil ?_
  refine hK3 _ _ ?_
  refine T_cond rfl (fun h7 => ?_) (fun h7 => ?_)
  ·
    refine T_seq fun K4 hK4 => ?_
    refine T_region ?_
    refine L_o (o_call Try.func8 rfl rfl (works w0) rfl rfl ?_)
    rintro e1 w1 ⟨v1, rfl, l1, rfl⟩
    refine ⟨_, rfl, ?_⟩
    have S1 := S0.like l1
    refine L_y (y_assign rfl) rfl ?_
    refine L_nil ?_
    refine hK4 _ _ ?_
    refine T_ret ?_
    repeat (first | with_reducible refine up_then ?_ | with_reducible refine up_in ?_)
    refine ret1 rfl rfl ?_
    exact ⟨_, rfl, S1.like0, rfl⟩
  ·
    refine T_skip ?_
    refine hK2 _ _ ?_
    refine T_seq fun K5 hK5 => ?_
    refine T_region ?_
    refine L_o (o_bsl0 te22 S0 rfl fun b2 w2 l2 S2 => ?_)
    refine L_y (y_move rfl) rfl ?_
    refine L_o (o_app te22 S2 0 rfl rfl rfl (S2.rd hl) (ens_one _) rfl (by omega) (by omega) fun A3 c3 w3 S3 => ?_)
    have S91 := S3.rowc 0 rfl (n' := l.length) (xs' := l.flatMap enf) (Nat.zero_add _) rfl
    rw [Nat.zero_add]
    refine L_y (y_assign rfl) rfl ?_
    refine L_nil ?_
    refine hK5 _ _ ?_
    refine T_seq fun K6 hK6 => ?_
    refine T_region ?_
    refine L_y (y_move rfl) rfl ?_
    refine L_o (o_call Try.func9 rfl rfl (psorted _ _ l w3 (S91.row 0 rfl) (by omega)) rfl rfl ?_)
    rintro e4 w4 ⟨v4, rfl, l4, A13, c13, rfl, O4⟩
    refine ⟨_, rfl, ?_⟩
    have S4 := S91.adopt l4 O4
    refine L_y (y_assign rfl) rfl ?_
    refine L_nil ?_
    refine hK6 _ _ ?_
    refine T_seq fun K7 hK7 => ?_
    refine T_region ?_
    refine L_y (y_move rfl) rfl ?_
    refine L_o (o_call Try.func10 rfl rfl (pcheck _ _ _ l w4 (S4.row 0 rfl) (by omega)) rfl rfl ?_)
    rintro e5 w5 ⟨v5, rfl, l5, rfl⟩
    refine ⟨_, rfl, ?_⟩
    have S5 := S4.like l5
    refine L_y (y_move rfl) rfl ?_
    refine L_o (o_call Try.func11 rfl rfl (rcheck _ _ _ l w5 (S5.rd hl) (by omega)) rfl rfl ?_)
    rintro e6 w6 ⟨v6, rfl, l6, rfl⟩
    refine ⟨_, rfl, ?_⟩
    have S6 := S5.like l6
    refine L_y (y_eql rfl rfl) rfl ?_
    refine L_y (y_move rfl) rfl ?_
    refine L_split 19 rfl (fun h19 => ?_) (fun h19 => ?_)
    ·
      refine L_gyes rfl rfl ?_
      refine L_y (y_move rfl) rfl ?_
      refine L_gyes rfl rfl ?_
      refine L_y (y_move rfl) rfl ?_
      refine L_gyes rfl rfl ?_
      refine L_o (o_call Try.func13 rfl rfl (rsorted _ _ _ l w6 (S6.rd hl) (by omega)) rfl rfl ?_)
      rintro e8 w8 ⟨v8, rfl, l8, A22, c22, rfl, O8⟩
      refine ⟨_, rfl, ?_⟩
      have S8 := S6.adopt l8 O8
      refine L_gyes rfl rfl ?_
      refine L_o (o_call Try.func12 rfl rfl (same _ _ _ (srt ltK l) _ _ _ (srt ltK l) w8 (S8.row 1 rfl) (S8.row 2 rfl)) rfl rfl ?_)
      rintro e9 w9 ⟨v9, rfl, l9, rfl⟩
      refine ⟨_, rfl, ?_⟩
      have S9 := S8.like l9
      rw [decide_eq_true rfl]
      refine L_y ((by first | exact y_pickT rfl rfl | exact y_pickF rfl rfl)) rfl ?_
      refine L_y (y_move rfl) rfl ?_
      refine L_splitB 25 rfl (fun h25 => ?_) (fun h25 => ?_)
      ·
        refine L_gyes rfl rfl ?_
        refine L_y (y_move rfl) rfl ?_
        refine L_gyes rfl rfl ?_
        refine L_y (y_move rfl) rfl ?_
        refine L_gyes rfl rfl ?_
        refine L_o (o_call Try.func12 rfl rfl (same _ _ _ l _ _ _ l w9 (S9.row 0 rfl) (S9.rd hl)) rfl rfl ?_)
        rintro e11 w11 ⟨v11, rfl, l11, rfl⟩
        refine ⟨_, rfl, ?_⟩
        have S11 := S9.like l11
        rw [decide_eq_true rfl]
        refine L_y ((by first | exact y_pickT rfl rfl | exact y_pickF rfl rfl)) rfl ?_
        refine L_y (y_move rfl) rfl ?_
        refine L_splitB 30 rfl (fun h30 => ?_) (fun h30 => ?_)
        ·
          refine L_gyes rfl rfl ?_
          refine L_o (o_call Try.func8 rfl rfl (works w11) rfl rfl ?_)
          rintro e13 w13 ⟨v13, rfl, l13, rfl⟩
          refine ⟨_, rfl, ?_⟩
          have S13 := S11.like l13
          refine L_y ((by first | exact y_pickT rfl rfl | exact y_pickF rfl rfl)) rfl ?_
          refine L_y (y_assign rfl) rfl ?_
          refine L_nil ?_
          refine hK7 _ _ ?_
          refine T_ret ?_
          repeat (first | with_reducible refine up_then ?_ | with_reducible refine up_in ?_)
          refine ret1 rfl rfl ?_
          exact ⟨_, rfl, S13.like0, rfl⟩
        ·
          cases h30
      ·
        cases h25
    ·
      exact absurd rfl h19


theorem checks_law (A : Option Addr) (n c : Nat) (l : List EW) (w0 : World) (hl : Rs w0 34 A n c (l.flatMap ewf)) (hs : (l.map fun e => e.nm.size).sum ≤ 1048576) :
    Calls Try.prog 3 #[.slice A n c] w0 fun e w' => e = .returned (.bool true) ∧ Below w0.heap.size w0 w' := by
  obtain ⟨l2, h1, _, _⟩ := ew_ev l hs
  rw [h1] at hl
  have hn := ens_n hl
  subst hn
  exact (lchecks A c l2 w0 hl).mono fun e w' ⟨u, h1, h2, h3⟩ => by subst h3; exact ⟨h1, h2⟩
end Go.Proofs.Ytmgimcdkeelnpaa
