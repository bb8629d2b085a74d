/-
  The law of the pads.
-/
import Derived.Test.YtanelemeljbbcaaQ
namespace Go.Proofs.Ytanelemeljbbcaa
open Go.RowKit Zk Zx
set_option linter.unusedVariables false
set_option linter.unusedSimpArgs false

theorem lawC {P : Program} {f : FuncId} {args : Array Value} {w : World} (h : Calls P f args w fun e w' => ∃ u, e = .returned u ∧ Like w w' ∧ u = .bool true) : Calls P f args w fun e w' => e = .returned (.bool true) ∧ Below w.heap.size w w' :=
  h.mono fun e w' ⟨u, h1, h2, h3⟩ => ⟨by rw [h1, h3], h2⟩


set_option maxRecDepth 100000 in
theorem shapads (n : Nat) (hn : n ≤ 18446744073709551615) (w0 : World)  :
    Calls Try.prog 3 #[.int .u64 (n : Int)] w0 fun e w' => ∃ u, e = .returned u ∧ Like w0 w' ∧ u = .bool true := by
  refine enter1 (env := [(0, .int .u64 (n : Int))]) [.int .u64 (n : Int)] Try.func3 rfl Try.ntmps3 rfl rfl ?_
  have S0 := St.start w0 noM
  refine T_seq fun K1 hK1 => ?_
  refine T_region ?_
  refine L_y (y_assign rfl) rfl ?_
  refine L_nil ?_
  refine hK1 _ _ ?_
  refine T_seq fun K2 hK2 => ?_
  refine T_region ?_
  refine L_y (y_move rfl) rfl ?_
  refine L_o (o_call Try.func7 rfl rfl (shapad n hn _) rfl rfl ?_)
  rintro e1 w1 ⟨v1, rfl, l1, A1, m1, c1, rfl, o1⟩
  refine ⟨_, rfl, ?_⟩
  have S1 := S0.adopt l1 o1
  refine L_y (y_assign rfl) rfl ?_
  refine L_nil ?_
  refine hK2 _ _ ?_
  refine T_seq fun K3 hK3 => ?_
  refine T_region ?_
  refine L_y (y_move rfl) rfl ?_
  refine L_y (y_move rfl) rfl ?_
  refine L_o (o_call Try.func9 rfl rfl (refpad n hn _) rfl rfl ?_)
  rintro e2 w2 ⟨v2, rfl, l2, A2, m2, c2, rfl, o2⟩
  refine ⟨_, rfl, ?_⟩
  have S2 := S1.adopt l2 o2
  refine L_o (o_call Try.func8 rfl rfl (same _ _ _ _ _ _ _ _ _ (S2.row 0 rfl) (S2.row 1 rfl)) rfl rfl ?_)
  rintro e3 w3 ⟨v3, rfl, l3, rfl⟩
  refine ⟨_, rfl, ?_⟩
  have S3 := S2.like l3
  refine L_y (y_move rfl) rfl ?_
  refine L_split 10 rfl (fun h10 => ?_) (fun h10 => ?_)
  ·
    refine L_gyes rfl rfl ?_
    refine L_y (y_move rfl) rfl ?_
    have hpm := (S3.row 0 rfl).lenb
    rw [length_padR] at hpm
    have hgp : gapR n ≤ 63 := by unfold gapR; omega
    refine L_gyes rfl rfl ?_
    refine L_y (y_rem rfl rfl (by omega) (remI (by omega))) rfl ?_
    refine L_gyes rfl rfl ?_
    refine L_y (y_move rfl) rfl ?_
    refine L_gyes rfl rfl ?_
    refine L_y (y_len Try.underlying23 rfl) rfl ?_
    refine L_gyes rfl rfl ?_
    refine L_y (y_conv is3 Try.underlying22 rfl (u64w (by omega))) rfl ?_
    refine L_gyes rfl rfl ?_
    refine L_y (y_add rfl rfl (u64w (by omega))) rfl ?_
    refine L_gyes rfl rfl ?_
    refine L_y (y_rem rfl rfl (by omega) (remI (by omega))) rfl ?_
    refine L_gyes rfl rfl ?_
    refine L_y (y_eql rfl rfl) rfl ?_
    refine L_y ((by first | exact y_pickT rfl rfl | exact y_pickF rfl rfl)) rfl ?_
    refine L_y (y_move rfl) rfl ?_
    refine L_split 20 rfl (fun h20 => ?_) (fun h20 => ?_)
    ·
      refine L_gyes rfl rfl ?_
      refine L_o (o_call Try.func10 rfl rfl (works _) rfl rfl ?_)
      rintro e6 w6 ⟨v6, rfl, l6, rfl⟩
      refine ⟨_, rfl, ?_⟩
      have S6 := S3.like l6
      refine L_y ((by first | exact y_pickT rfl rfl | exact y_pickF rfl rfl)) rfl ?_
      refine L_y (y_assign rfl) rfl ?_
      refine L_nil ?_
      refine hK3 _ _ ?_
      refine T_ret ?_
      repeat (first | with_reducible refine up_then ?_ | with_reducible refine up_in ?_)
      refine ret1 rfl rfl ?_
      exact ⟨_, rfl, S6.like0, rfl⟩
    ·
      exact absurd (by unfold gapR at hpm; omega) h20
  ·
    exact absurd rfl h10


theorem shapadsI (n : Int) (wf : (Lit.int .u64 n).wf = true) (w : World) : Calls Try.prog 3 #[.int .u64 n] w fun e w' => e = .returned (.bool true) ∧ Below w.heap.size w w' := by
  have hb := bounds_u64 wf
  obtain ⟨k, rfl⟩ := Int.eq_ofNat_of_zero_le hb.1
  exact lawC (shapads k (by omega) w)
end Go.Proofs.Ytanelemeljbbcaa
