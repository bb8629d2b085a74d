/-
  The law OctetJust.
-/
import Derived.Test.YtcbnhmcfdpcbhaaJ
import Derived.Test.YtcbnhmcfdpcbhaaE
import Derived.Test.YtcbnhmcfdpcbhaaZu
namespace Go.Proofs.Ytcbnhmcfdpcbhaa
open Go.RowKit Zk Zx
set_option linter.unusedVariables false
set_option linter.unusedSimpArgs false

theorem bsz (x : List UInt8) : (⟨x.toArray⟩ : ByteArray).size = x.length := by
  show x.toArray.size = _
  simp


set_option maxRecDepth 100000 in
theorem just (B : Option Addr) (n c : Nat) (l : List UInt8) (w0 : World) (hb : Rs w0 1 B n c (bL l)) (hn : n ≤ 1048576) :
    Calls Try.prog 4 #[.slice B n c] w0 fun e w' => ∃ u, e = .returned u ∧ Like w0 w' ∧ u = .bool true := by
  refine enter1 (env := [(0, .slice B n c)]) [.slice B n c] Try.func4 rfl Try.ntmps4 rfl rfl ?_
  have hln := hb.lenb; have S0 := St.start w0 noM
  refine T_seq fun K1 hK1 => ?_
  refine T_region ?_
  refine L_y (y_assign rfl) rfl ?_
  refine L_nil ?_
  refine hK1 _ _ ?_
  refine T_seq fun K2 hK2 => ?_
  refine T_region ?_
  refine L_y (y_move rfl) rfl ?_
  refine L_o (o_call Try.func15 rfl rfl (rnew B n c l w0 (S0.rd hb) (by omega)) rfl rfl ?_)
  rintro e1 w1 ⟨v1, rfl, l1, g1, A1, c1, rfl, hh1, dd1⟩
  refine ⟨_, rfl, ?_⟩
  have S1 := S0.new l1 _ hh1 dd1
  have hA1 := vaN_le l 0 0 18446744073709551615 (Nat.zero_le _)
  have hA2 := vaN_max l 0 0 18446744073709551615
  refine L_y (y_assign rfl) rfl ?_
  refine L_nil ?_
  refine hK2 _ _ ?_
  refine T_seq fun K3 hK3 => ?_
  refine T_region ?_
  refine L_y (y_move rfl) rfl ?_
  refine L_o (o_call Try.func16 rfl rfl (rvar g1 A1 n c1 l 0 0 18446744073709551615 w1 (S1.get 0 rfl) (Nat.zero_le _) (by omega)) rfl rfl ?_)
  rintro e2 w2 ⟨v2, rfl, rfl, T2⟩
  refine ⟨_, rfl, ?_⟩
  have S2 := S1.turn 0 rfl T2
  have hA3 := txN_le l (vaN l 0 0 18446744073709551615).2.1 (vaN l 0 0 18446744073709551615).2.2 1073741824 hA1
  refine L_y (y_assign rfl) rfl ?_
  refine L_nil ?_
  refine hK3 _ _ ?_
  refine T_seq fun K4 hK4 => ?_
  refine T_region ?_
  refine L_y (y_move rfl) rfl ?_
  refine L_o (o_call Try.func17 rfl rfl (rtext g1 A1 n c1 l _ _ 1073741824 w2 (S2.get 0 rfl) hA1 (by omega) (by omega)) rfl rfl ?_)
  rintro e3 w3 ⟨v3, rfl, rfl, T3⟩
  refine ⟨_, rfl, ?_⟩
  have S3 := S2.turn 0 rfl T3
  refine L_y (y_assign rfl) rfl ?_
  refine L_nil ?_
  refine hK4 _ _ ?_
  refine T_seq fun K5 hK5 => ?_
  refine T_seq fun K6 hK6 => ?_
  refine T_region ?_
  refine L_y (y_move rfl) rfl ?_
  refine L_o (o_call Try.func18 rfl rfl (rerr g1 A1 n c1 l _ _ w3 (S3.get 0 rfl) hA3) rfl rfl ?_)
  rintro e4 w4 ⟨v4, rfl, l4, rfl⟩
  refine ⟨_, rfl, ?_⟩
  have S4 := S3.like l4
  refine L_y (y_neq rfl rfl) rfl ?_
  refine L_nil ?_
  refine hK6 _ _ ?_
  refine T_cond rfl (fun h15 => ?_) (fun h15 => ?_)
  ·
    refine T_seq fun K7 hK7 => ?_
    refine T_region ?_
    refine L_y (y_move rfl) rfl ?_
    refine L_o (o_call Try.func19 rfl rfl (rleft g1 A1 n c1 l _ _ w4 (S4.get 0 rfl) hA3) rfl rfl ?_)
    rintro e5 w5 ⟨v5, rfl, l5, rfl⟩
    refine ⟨_, rfl, ?_⟩
    have S5 := S4.like l5
    refine L_y (y_move rfl) rfl ?_
    refine L_y (y_len Try.underlying25 rfl) rfl ?_
    refine L_y (y_leq rfl rfl) rfl ?_
    refine L_y (y_move rfl) rfl ?_
    refine L_split 21 rfl (fun h21 => ?_) (fun h21 => ?_)
    ·
      refine L_gyes rfl rfl ?_
      refine L_o (o_call Try.func14 rfl rfl (works w5) rfl rfl ?_)
      rintro e7 w7 ⟨v7, rfl, l7, rfl⟩
      refine ⟨_, rfl, ?_⟩
      have S7 := S5.like l7
      refine L_y ((by first | exact y_pickT rfl rfl | exact y_pickF rfl rfl)) rfl ?_
      refine L_y (y_assign rfl) rfl ?_
      refine L_nil ?_
      refine hK7 _ _ ?_
      refine T_ret ?_
      repeat (first | with_reducible refine up_then ?_ | with_reducible refine up_in ?_)
      refine ret1 rfl rfl ?_
      first | exact ⟨_, rfl, S7.like0, rfl⟩ | (exfalso; omega) | exact absurd hX h52
    ·
      refine L_gno rfl rfl rfl ?_
      refine L_y ((by first | exact y_pickT rfl rfl | exact y_pickF rfl rfl)) rfl ?_
      refine L_y (y_assign rfl) rfl ?_
      refine L_nil ?_
      refine hK7 _ _ ?_
      refine T_ret ?_
      repeat (first | with_reducible refine up_then ?_ | with_reducible refine up_in ?_)
      refine ret1 rfl rfl ?_
      first | exact ⟨_, rfl, S5.like0, rfl⟩ | (exfalso; omega) | exact absurd hX h52
  ·
    have hlaw := just_law l 18446744073709551615 1073741824 (by omega)
    have hA3n : (txN l (vaN l 0 0 18446744073709551615).2.1 (vaN l 0 0 18446744073709551615).2.2 1073741824).2.1 ≤ n := by omega
    have hcap := hb.cap
    have hL := congrArg List.length hlaw
    simp only [List.length_append, List.length_take, Nat.min_eq_left hA3] at hL
    refine T_skip ?_
    refine hK5 _ _ ?_
    refine T_seq fun K8 hK8 => ?_
    refine T_region ?_
    refine L_o (o_call Try.func8 rfl rfl (wnew w4) rfl rfl ?_)
    rintro e8 w8 ⟨v8, rfl, l8, b8, rfl, hb8, hh8⟩
    refine ⟨_, rfl, ?_⟩
    have S8 := S4.new l8 _ hh8 (wt_fresh hb8 hh8)
    have bW := b8
    refine L_y (y_assign rfl) rfl ?_
    refine L_nil ?_
    refine hK8 _ _ ?_
    refine T_seq fun K9 hK9 => ?_
    refine T_region ?_
    refine L_y (y_move rfl) rfl ?_
    refine L_y (y_move rfl) rfl ?_
    refine L_o (o_call Try.func20 rfl rfl (wvar _ _ _ _ _ _ w8 (S8.get 1 rfl) hA2 (by simp)) rfl rfl ?_)
    rintro e9 w9 ⟨v9, rfl, ⟨A9, n9, c9, T9⟩⟩
    refine ⟨_, rfl, ?_⟩
    have S9 := S8.turn 1 rfl T9
    refine L_nil ?_
    refine hK9 _ _ ?_
    refine T_seq fun K10 hK10 => ?_
    refine T_region ?_
    refine L_y (y_move rfl) rfl ?_
    refine L_y (y_move rfl) rfl ?_
    refine L_o (o_call Try.func21 rfl rfl (wtext _ _ _ _ _ _ w9 (S9.get 1 rfl) (by rw [bsz]; simp only [List.nil_append]; omega)) rfl rfl ?_)
    rintro e10 w10 ⟨v10, rfl, ⟨A10, n10, c10, T10⟩⟩
    refine ⟨_, rfl, ?_⟩
    have S10 := S9.turn 1 rfl T10
    have hW := wt_len T10.holds
    have hE : n10 = (txN l (vaN l 0 0 18446744073709551615).2.1 (vaN l 0 0 18446744073709551615).2.2 1073741824).2.1 := by rw [← hW, bsz]; simp only [List.nil_append, List.length_append]; exact hL
    have hX : [] ++ vr (vaN l 0 0 18446744073709551615).1 ++ (vr (⟨(txN l (vaN l 0 0 18446744073709551615).2.1 (vaN l 0 0 18446744073709551615).2.2 1073741824).1.toArray⟩ : ByteArray).size ++ (⟨(txN l (vaN l 0 0 18446744073709551615).2.1 (vaN l 0 0 18446744073709551615).2.2 1073741824).1.toArray⟩ : ByteArray).data.toList) = (l.drop 0).take ((txN l (vaN l 0 0 18446744073709551615).2.1 (vaN l 0 0 18446744073709551615).2.2 1073741824).2.1 - 0) := by rw [bsz]; exact hlaw
    refine L_nil ?_
    refine hK10 _ _ ?_
    refine T_seq fun K11 hK11 => ?_
    refine T_region ?_
    refine L_y (y_move rfl) rfl ?_
    refine L_o (o_call Try.func11 rfl rfl (wlen _ _ _ _ _ w10 (S10.get 1 rfl)) rfl rfl ?_)
    rintro e11 w11 ⟨v11, rfl, l11, rfl⟩
    refine ⟨_, rfl, ?_⟩
    have S11 := S10.like l11
    refine L_y (y_move rfl) rfl ?_
    refine L_o (o_call Try.func22 rfl rfl (rat g1 A1 n c1 l _ _ w11 (S11.get 0 rfl) hA3) rfl rfl ?_)
    rintro e12 w12 ⟨v12, rfl, l12, rfl⟩
    refine ⟨_, rfl, ?_⟩
    have S12 := S11.like l12
    refine L_y (y_eql rfl rfl) rfl ?_
    refine L_y (y_move rfl) rfl ?_
    refine L_split 36 rfl (fun h36 => ?_) (fun h36 => ?_)
    ·
      refine L_gyes rfl rfl ?_
      refine L_y (y_move rfl) rfl ?_
      refine L_gyes rfl rfl ?_
      refine L_o (o_call Try.func22 rfl rfl (rat g1 A1 n c1 l _ _ w12 (S12.get 0 rfl) hA3) rfl rfl ?_)
      rintro e14 w14 ⟨v14, rfl, l14, rfl⟩
      refine ⟨_, rfl, ?_⟩
      have S14 := S12.like l14
      refine L_gyes rfl rfl ?_
      refine L_y (y_move rfl) rfl ?_
      refine L_gyes rfl rfl ?_
      refine L_y (y_len Try.underlying25 rfl) rfl ?_
      refine L_gyes rfl rfl ?_
      refine L_y (y_leq rfl rfl) rfl ?_
      refine L_y ((by first | exact y_pickT rfl rfl | exact y_pickF rfl rfl)) rfl ?_
      refine L_y (y_move rfl) rfl ?_
      refine L_split 43 rfl (fun h43 => ?_) (fun h43 => ?_)
      ·
        refine L_gyes rfl rfl ?_
        refine L_y (y_move rfl) rfl ?_
        refine L_gyes rfl rfl ?_
        refine L_o (o_call Try.func13 rfl rfl (wbytes _ _ _ _ _ w14 (S14.get 1 rfl) (by omega)) rfl rfl ?_)
        rintro e16 w16 ⟨v16, rfl, l16, A16, m16, c16, rfl, O16⟩
        refine ⟨_, rfl, ?_⟩
        have S16 := S14.adopt l16 O16
        refine L_gyes rfl rfl ?_
        refine L_y (y_move rfl) rfl ?_
        refine L_gyes rfl rfl ?_
        refine L_y (y_move rfl) rfl ?_
        refine L_gyes rfl rfl ?_
        refine L_o (o_call Try.func22 rfl rfl (rat g1 A1 n c1 l _ _ w16 (S16.get 0 rfl) hA3) rfl rfl ?_)
        rintro e17 w17 ⟨v17, rfl, l17, rfl⟩
        refine ⟨_, rfl, ?_⟩
        have S17 := S16.like l17
        refine L_gyes rfl rfl ?_
        refine L_y (y_sliceH Try.underlying25 sz5 rfl rfl inferInstance (by omega)) rfl ?_
        refine L_gyes rfl rfl ?_
        refine L_o (o_call Try.func12 rfl rfl (same _ _ _ _ _ _ _ _ w17 (S17.row 2 rfl) ((S17.rd hb).cutb (l := 0) (Nat.zero_le _) hA3n)) rfl rfl ?_)
        rintro e18 w18 ⟨v18, rfl, l18, rfl⟩
        refine ⟨_, rfl, ?_⟩
        have S18 := S17.like l18
        refine L_y ((by first | exact y_pickT rfl rfl | exact y_pickF rfl rfl)) rfl ?_
        refine L_y (y_move rfl) rfl ?_
        refine L_split 52 rfl (fun h52 => ?_) (fun h52 => ?_)
        ·
          refine L_gyes rfl rfl ?_
          refine L_o (o_call Try.func14 rfl rfl (works w18) rfl rfl ?_)
          rintro e20 w20 ⟨v20, rfl, l20, rfl⟩
          refine ⟨_, rfl, ?_⟩
          have S20 := S18.like l20
          refine L_y ((by first | exact y_pickT rfl rfl | exact y_pickF rfl rfl)) rfl ?_
          refine L_y (y_assign rfl) rfl ?_
          refine L_nil ?_
          refine hK11 _ _ ?_
          refine T_ret ?_
          repeat (first | with_reducible refine up_then ?_ | with_reducible refine up_in ?_)
          refine ret1 rfl rfl ?_
          first | exact ⟨_, rfl, S20.like0, rfl⟩ | (exfalso; omega) | exact absurd hX h52
        ·
          refine L_gno rfl rfl rfl ?_
          refine L_y ((by first | exact y_pickT rfl rfl | exact y_pickF rfl rfl)) rfl ?_
          refine L_y (y_assign rfl) rfl ?_
          refine L_nil ?_
          refine hK11 _ _ ?_
          refine T_ret ?_
          repeat (first | with_reducible refine up_then ?_ | with_reducible refine up_in ?_)
          refine ret1 rfl rfl ?_
          first | exact ⟨_, rfl, S18.like0, rfl⟩ | (exfalso; omega) | exact absurd hX h52
      ·
        refine L_gno rfl rfl rfl ?_
        refine L_gno rfl rfl rfl ?_
        refine L_gno rfl rfl rfl ?_
        refine L_gno rfl rfl rfl ?_
        refine L_gno rfl rfl rfl ?_
        refine L_gno rfl rfl rfl ?_
        refine L_gno rfl rfl rfl ?_
        refine L_y ((by first | exact y_pickT rfl rfl | exact y_pickF rfl rfl)) rfl ?_
        refine L_y (y_move rfl) rfl ?_
        refine L_gno rfl rfl rfl ?_
        refine L_y ((by first | exact y_pickT rfl rfl | exact y_pickF rfl rfl)) rfl ?_
        refine L_y (y_assign rfl) rfl ?_
        refine L_nil ?_
        refine hK11 _ _ ?_
        refine T_ret ?_
        repeat (first | with_reducible refine up_then ?_ | with_reducible refine up_in ?_)
        refine ret1 rfl rfl ?_
        first | exact ⟨_, rfl, S14.like0, rfl⟩ | (exfalso; omega) | exact absurd hX h52
    ·
      refine L_gno rfl rfl rfl ?_
      refine L_gno rfl rfl rfl ?_
      refine L_gno rfl rfl rfl ?_
      refine L_gno rfl rfl rfl ?_
      refine L_gno rfl rfl rfl ?_
      refine L_y ((by first | exact y_pickT rfl rfl | exact y_pickF rfl rfl)) rfl ?_
      refine L_y (y_move rfl) rfl ?_
      refine L_gno rfl rfl rfl ?_
      refine L_gno rfl rfl rfl ?_
      refine L_gno rfl rfl rfl ?_
      refine L_gno rfl rfl rfl ?_
      refine L_gno rfl rfl rfl ?_
      refine L_gno rfl rfl rfl ?_
      refine L_gno rfl rfl rfl ?_
      refine L_y ((by first | exact y_pickT rfl rfl | exact y_pickF rfl rfl)) rfl ?_
      refine L_y (y_move rfl) rfl ?_
      refine L_gno rfl rfl rfl ?_
      refine L_y ((by first | exact y_pickT rfl rfl | exact y_pickF rfl rfl)) rfl ?_
      refine L_y (y_assign rfl) rfl ?_
      refine L_nil ?_
      refine hK11 _ _ ?_
      refine T_ret ?_
      repeat (first | with_reducible refine up_then ?_ | with_reducible refine up_in ?_)
      refine ret1 rfl rfl ?_
      first | exact ⟨_, rfl, S12.like0, rfl⟩ | (exfalso; omega) | exact absurd hX h52


theorem just_small (B : Option Addr) (n c : Nat) (l : List UInt8) (w0 : World) (hb : Rs w0 1 B n c (bL l)) (hn : n ≤ 1048576) :
    Calls Try.prog 4 #[.slice B n c] w0 fun e w' => e = .returned (.bool true) ∧ Below w0.heap.size w0 w' :=
  (just B n c l w0 hb hn).mono fun e w' ⟨u, h1, h2, h3⟩ => by subst h3; exact ⟨h1, h2⟩
end Go.Proofs.Ytcbnhmcfdpcbhaa
