/-
  The law AlikeEven.
-/
import Derived.Test.YtaknmlajhedfhaaK
namespace Go.Proofs.Ytaknmlajhedfhaa
open Go.RowKit Zk Zx
set_option linter.unusedVariables false
set_option linter.unusedSimpArgs false

set_option maxRecDepth 100000 in
theorem evens (A B T : Option Addr) (n c m d t e : Nat) (la lb lt : List UInt8) (w0 : World) (ha : Rs w0 1 A n c (bL la)) (hb : Rs w0 1 B m d (bL lb)) (ht : Rs w0 1 T t e (bL lt)) :
    Calls Try.prog 4 #[.slice A n c, .slice B m d, .slice T t e] w0 fun e w' => ∃ u, e = .returned u ∧ Like w0 w' ∧ u = .bool true := by
  refine enter1 (env := [(0, .slice A n c), (1, .slice B m d), (2, .slice T t e)]) [.slice A n c, .slice B m d, .slice T t e] Try.func4 rfl Try.ntmps4 rfl rfl ?_
  have hla := ha.lenb; have hlb := hb.lenb; have hlt := ht.lenb; have S0 := St.start w0 noM
  refine T_seq fun K1 hK1 => ?_
  refine T_region ?_
  refine L_y (y_assign rfl) rfl ?_
  refine L_nil ?_
  refine hK1 _ _ ?_
  refine T_seq fun K2 hK2 => ?_
  refine T_seq fun K3 hK3 => ?_
  refine T_region ?_
  refine L_y (y_move rfl) rfl ?_
  refine L_y (y_len Try.underlying22 rfl) rfl ?_
  refine L_y (y_gtr rfl rfl) rfl ?_
  refine L_y (y_move rfl) rfl ?_
  refine L_split 13 rfl (fun h13 => ?_) (fun h13 => ?_)
  ·
    refine L_gno rfl rfl rfl ?_
    refine L_gno rfl rfl rfl ?_
    refine L_gno rfl rfl rfl ?_
    refine L_y ((by first | exact y_pickT rfl rfl | exact y_pickF rfl rfl)) rfl ?_
    refine L_y (y_move rfl) rfl ?_
    refine L_gno rfl rfl rfl ?_
    refine L_gno rfl rfl rfl ?_
    refine L_gno rfl rfl rfl ?_
    refine L_y ((by first | exact y_pickT rfl rfl | exact y_pickF rfl rfl)) rfl ?_
    refine L_nil ?_
    refine hK3 _ _ ?_
    refine T_true rfl ?_
    refine T_seq fun K4 hK4 => ?_
    refine T_region ?_
    refine L_o (o_call Try.func7 rfl rfl (works w0) rfl rfl ?_)
    rintro e2 w2 ⟨v2, rfl, l2, rfl⟩
    refine ⟨_, rfl, ?_⟩
    have S2 := S0.like l2
    refine L_y (y_assign rfl) rfl ?_
    refine L_nil ?_
    refine hK4 _ _ ?_
    refine T_ret ?_
    repeat (first | with_reducible refine up_then ?_ | with_reducible refine up_in ?_)
    refine ret1 rfl rfl ?_
    first | exact ⟨_, rfl, Like.trans hl2 S2.like0, by simp⟩ | exact ⟨_, rfl, S2.like0, by simp⟩
  ·
    refine L_gyes rfl rfl ?_
    refine L_y (y_move rfl) rfl ?_
    refine L_gyes rfl rfl ?_
    refine L_y (y_len Try.underlying22 rfl) rfl ?_
    refine L_gyes rfl rfl ?_
    refine L_y (y_gtr rfl rfl) rfl ?_
    refine L_y ((by first | exact y_pickT rfl rfl | exact y_pickF rfl rfl)) rfl ?_
    refine L_y (y_move rfl) rfl ?_
    refine L_split 18 rfl (fun h18 => ?_) (fun h18 => ?_)
    ·
      refine L_gno rfl rfl rfl ?_
      refine L_gno rfl rfl rfl ?_
      refine L_gno rfl rfl rfl ?_
      refine L_y ((by first | exact y_pickT rfl rfl | exact y_pickF rfl rfl)) rfl ?_
      refine L_nil ?_
      refine hK3 _ _ ?_
      refine T_true rfl ?_
      refine T_seq fun K5 hK5 => ?_
      refine T_region ?_
      refine L_o (o_call Try.func7 rfl rfl (works w0) rfl rfl ?_)
      rintro e4 w4 ⟨v4, rfl, l4, rfl⟩
      refine ⟨_, rfl, ?_⟩
      have S4 := S0.like l4
      refine L_y (y_assign rfl) rfl ?_
      refine L_nil ?_
      refine hK5 _ _ ?_
      refine T_ret ?_
      repeat (first | with_reducible refine up_then ?_ | with_reducible refine up_in ?_)
      refine ret1 rfl rfl ?_
      first | exact ⟨_, rfl, Like.trans hl2 S4.like0, by simp⟩ | exact ⟨_, rfl, S4.like0, by simp⟩
    ·
      refine L_gyes rfl rfl ?_
      refine L_y (y_move rfl) rfl ?_
      refine L_gyes rfl rfl ?_
      refine L_y (y_len Try.underlying22 rfl) rfl ?_
      refine L_gyes rfl rfl ?_
      refine L_y (y_gtr rfl rfl) rfl ?_
      refine L_y ((by first | exact y_pickT rfl rfl | exact y_pickF rfl rfl)) rfl ?_
      refine L_nil ?_
      refine hK3 _ _ ?_
      refine T_cond rfl (fun h22 => ?_) (fun h22 => ?_)
      ·
        refine T_seq fun K6 hK6 => ?_
        refine T_region ?_
        refine L_o (o_call Try.func7 rfl rfl (works w0) rfl rfl ?_)
        rintro e5 w5 ⟨v5, rfl, l5, rfl⟩
        refine ⟨_, rfl, ?_⟩
        have S5 := S0.like l5
        refine L_y (y_assign rfl) rfl ?_
        refine L_nil ?_
        refine hK6 _ _ ?_
        refine T_ret ?_
        repeat (first | with_reducible refine up_then ?_ | with_reducible refine up_in ?_)
        refine ret1 rfl rfl ?_
        first | exact ⟨_, rfl, Like.trans hl2 S5.like0, by simp⟩ | exact ⟨_, rfl, S5.like0, by simp⟩
      ·
        refine T_skip ?_
        refine hK2 _ _ ?_
        refine T_seq fun K7 hK7 => ?_
        refine T_region ?_
        refine L_y (y_move rfl) rfl ?_
        refine L_y (y_move rfl) rfl ?_
        refine L_o (o_call Try.func8 rfl rfl (scoreX A B n c m d la lb w0 (S0.rd ha) (S0.rd hb) (by omega) (by omega)) rfl rfl ?_)
        rintro e6 w6 ⟨v6, rfl, l6, rfl⟩
        refine ⟨_, rfl, ?_⟩
        have S6 := S0.like l6
        refine L_y (y_assign rfl) rfl ?_
        refine L_nil ?_
        refine hK7 _ _ ?_
        refine T_seq fun K8 hK8 => ?_
        refine T_seq fun K9 hK9 => ?_
        refine T_region ?_
        refine L_y (y_move rfl) rfl ?_
        refine L_y (y_move rfl) rfl ?_
        refine L_y (y_move rfl) rfl ?_
        refine L_o (o_call Try.func8 rfl rfl (scoreX B A m d n c lb la w6 (S6.rd hb) (S6.rd ha) (by omega) (by omega)) rfl rfl ?_)
        rintro e7 w7 ⟨v7, rfl, l7, rfl⟩
        refine ⟨_, rfl, ?_⟩
        have S7 := S6.like l7
        refine L_y (y_neq rfl rfl) rfl ?_
        refine L_y (y_move rfl) rfl ?_
        refine L_split 32 rfl (fun h32 => ?_) (fun h32 => ?_)
        ·
          exact absurd (by rw [score_comm la lb n m]) h32
        ·
          refine L_gyes rfl rfl ?_
          refine L_y (y_move rfl) rfl ?_
          refine L_gyes rfl rfl ?_
          refine L_y (y_move rfl) rfl ?_
          refine L_gyes rfl rfl ?_
          refine L_o (o_call Try.func8 rfl rfl (scoreX A A n c n c la la w7 (S7.rd ha) (S7.rd ha) (by omega) (by omega)) rfl rfl ?_)
          rintro e9 w9 ⟨v9, rfl, l9, rfl⟩
          refine ⟨_, rfl, ?_⟩
          have S9 := S7.like l9
          refine L_gyes rfl rfl ?_
          refine L_y (y_neq rfl rfl) rfl ?_
          refine L_y ((by first | exact y_pickT rfl rfl | exact y_pickF rfl rfl)) rfl ?_
          refine L_y (y_move rfl) rfl ?_
          refine L_split 38 rfl (fun h38 => ?_) (fun h38 => ?_)
          ·
            exact absurd (by rw [score_self la n hla]; rfl) h38
          ·
            refine L_gyes rfl rfl ?_
            refine L_y (y_move rfl) rfl ?_
            refine L_gyes rfl rfl ?_
            refine L_y (y_lss rfl rfl) rfl ?_
            refine L_y ((by first | exact y_pickT rfl rfl | exact y_pickF rfl rfl)) rfl ?_
            refine L_y (y_move rfl) rfl ?_
            refine L_split 42 rfl (fun h42 => ?_) (fun h42 => ?_)
            ·
              exact absurd h42 (by omega)
            ·
              refine L_gyes rfl rfl ?_
              refine L_y (y_move rfl) rfl ?_
              refine L_gyes rfl rfl ?_
              refine L_y (y_move rfl) rfl ?_
              refine L_gyes rfl rfl ?_
              refine L_y (y_len Try.underlying22 rfl) rfl ?_
              refine L_gyes rfl rfl ?_
              refine L_y (y_move rfl) rfl ?_
              refine L_gyes rfl rfl ?_
              refine L_y (y_len Try.underlying22 rfl) rfl ?_
              refine L_gyes rfl rfl ?_
              refine L_o (o_call Try.func10 rfl rfl (mostX _ _ w9) rfl rfl ?_)
              rintro e12 w12 ⟨v12, rfl, l12, rfl⟩
              refine ⟨_, rfl, ?_⟩
              have S12 := S9.like l12
              refine L_gyes rfl rfl ?_
              refine L_y (y_gtr rfl rfl) rfl ?_
              refine L_y ((by first | exact y_pickT rfl rfl | exact y_pickF rfl rfl)) rfl ?_
              refine L_nil ?_
              refine hK9 _ _ ?_
              refine T_cond rfl (fun h50 => ?_) (fun h50 => ?_)
              ·
                exact absurd h50 (by have := score_most la lb n m hla hlb (by omega) (by omega); omega)
              ·
                refine T_skip ?_
                refine hK8 _ _ ?_
                refine T_seq fun K10 hK10 => ?_
                refine T_region ?_
                refine L_o (o_bsl0 te22 S12 rfl fun b13 w13 l13 S13 => ?_)
                refine L_y (y_move rfl) rfl ?_
                refine L_o (o_app te22 S13 0 rfl rfl rfl (S13.rd ha) (bL_one _) rfl (by omega) (by omega) fun A14 c14 w14 S14 => ?_)
                refine L_o (o_bsl [_] te22 zz5 S14 rfl rfl rfl rfl rfl rfl rfl rfl fun b15 w15 S15 => ?_)
                refine L_o (o_app te22 S15 0 rfl rfl rfl (by first | exact S15.row 0 rfl | exact S15.row 1 rfl) (by first | exact bL_one _ | exact iL_one _ | (intro u hu; simp at hu; subst hu; rfl) | (simp; done) | (simp [Value.oneCell']; done)) rfl (by omega) (by omega) fun A16 c16 w16 S16 => ?_)
                have S16d := S16.drop (rs' := [_]) (.cons_cons _ (.cons _ (.refl _)))
                refine L_y (y_assign rfl) rfl ?_
                refine L_nil ?_
                refine hK10 _ _ ?_
                refine T_seq fun K11 hK11 => ?_
                refine T_region ?_
                refine L_y (y_move rfl) rfl ?_
                refine L_y (y_len Try.underlying22 rfl) rfl ?_
                refine L_y (y_move rfl) rfl ?_
                refine L_y (y_len Try.underlying22 rfl) rfl ?_
                refine L_y (y_max rfl rfl) rfl ?_
                refine L_y (y_assign rfl) rfl ?_
                refine L_nil ?_
                refine hK11 _ _ ?_
                refine T_seq fun K12 hK12 => ?_
                refine T_region ?_
                refine L_y (y_move rfl) rfl ?_
                refine L_y (y_move rfl) rfl ?_
                refine L_o (o_appK te22 S16d 0 rfl rfl rfl (S16d.rd ht) (bL_one _) rfl (by omega) (by omega) fun A17 c17 w17 S17 hkp => ?_)
                have hb2 := S17.rd hb
                have hx2 := S17.row 0 rfl
                have e1 : ([] ++ bL la ++ [Value.int .u8 10] : List Value) = bL (la ++ [10]) := by rw [List.nil_append, bL_app]; rfl
                rw [e1, ← bL_app] at hx2
                rw [e1] at hkp
                have hl2 := S17.like0
                have S90 := St.start w17 noM
                have hcl := (comT_le (cuts (la ++ [10])) (cuts lb)).2
                rw [cuts_sum] at hcl
                refine L_y (y_move rfl) rfl ?_
                refine L_o (o_call Try.func12 rfl rfl (rcommon _ _ _ _ _ _ (la ++ [10] ++ lt) lb w17 (S90.rd hx2) (S90.rd hb2) (by omega) (by omega)) rfl rfl ?_)
                rintro e18 w18 ⟨v18, rfl, l18, rfl⟩
                refine ⟨_, rfl, ?_⟩
                have S18 := S90.like l18
                refine L_y (y_move rfl) rfl ?_
                refine L_y (y_move rfl) rfl ?_
                refine L_o (o_call Try.func12 rfl rfl (rcommon _ _ _ _ _ _ (la ++ [10]) lb w18 (S18.rd hkp) (S18.rd hb2) (by omega) (by omega)) rfl rfl ?_)
                rintro e19 w19 ⟨v19, rfl, l19, rfl⟩
                refine ⟨_, rfl, ?_⟩
                have S19 := S18.like l19
                refine L_y (y_geq rfl rfl) rfl ?_
                refine L_y (y_move rfl) rfl ?_
                refine L_split 70 rfl (fun h70 => ?_) (fun h70 => ?_)
                ·
                  refine L_gyes rfl rfl ?_
                  refine L_y (y_move rfl) rfl ?_
                  refine L_gyes rfl rfl ?_
                  refine L_y (y_move rfl) rfl ?_
                  refine L_gyes rfl rfl ?_
                  refine L_o (o_call Try.func8 rfl rfl (scoreX _ _ _ _ _ _ (la ++ [10]) lb w19 (S19.rd hkp) (S19.rd hb2) (by omega) (by omega)) rfl rfl ?_)
                  rintro e21 w21 ⟨v21, rfl, l21, rfl⟩
                  refine ⟨_, rfl, ?_⟩
                  have S21 := S19.like l21
                  refine L_gyes rfl rfl ?_
                  refine L_y (y_move rfl) rfl ?_
                  refine L_gyes rfl rfl ?_
                  refine L_y (y_move rfl) rfl ?_
                  refine L_gyes rfl rfl ?_
                  refine L_o (o_call Try.func12 rfl rfl (rcommon _ _ _ _ _ _ (la ++ [10]) lb w21 (S21.rd hkp) (S21.rd hb2) (by omega) (by omega)) rfl rfl ?_)
                  rintro e22 w22 ⟨v22, rfl, l22, rfl⟩
                  refine ⟨_, rfl, ?_⟩
                  have S22 := S21.like l22
                  refine L_gyes rfl rfl ?_
                  refine L_y (y_mul rfl rfl (i64w (by omega))) rfl ?_
                  refine L_gyes rfl rfl ?_
                  refine L_y (y_move rfl) rfl ?_
                  refine L_gyes rfl rfl ?_
                  refine L_y (y_quo rfl rfl (by omega) (quoI (by omega) (by omega))) rfl ?_
                  refine L_gyes rfl rfl ?_
                  refine L_y (y_eql rfl rfl) rfl ?_
                  refine L_y ((by first | exact y_pickT rfl rfl | exact y_pickF rfl rfl)) rfl ?_
                  refine L_y (y_move rfl) rfl ?_
                  refine L_split 82 rfl (fun h82 => ?_) (fun h82 => ?_)
                  ·
                    refine L_gyes rfl rfl ?_
                    refine L_o (o_call Try.func7 rfl rfl (works w22) rfl rfl ?_)
                    rintro e24 w24 ⟨v24, rfl, l24, rfl⟩
                    refine ⟨_, rfl, ?_⟩
                    have S24 := S22.like l24
                    refine L_y ((by first | exact y_pickT rfl rfl | exact y_pickF rfl rfl)) rfl ?_
                    refine L_y (y_assign rfl) rfl ?_
                    refine L_nil ?_
                    refine hK12 _ _ ?_
                    refine T_ret ?_
                    repeat (first | with_reducible refine up_then ?_ | with_reducible refine up_in ?_)
                    refine ret1 rfl rfl ?_
                    first | exact ⟨_, rfl, Like.trans hl2 S24.like0, by simp⟩ | exact ⟨_, rfl, S24.like0, by simp⟩
                  ·
                    exact absurd (by rw [score_eq _ _ _ (by omega)]) h82
                ·
                  exact absurd (by rw [cuts_nl]; have := comT_mono (cuts (la ++ [10])) (cuts lt) (cuts lb); omega) h70


theorem evens_law (A B T : Option Addr) (n c m d t e : Nat) (la lb lt : List UInt8) (w0 : World) (ha : Rs w0 1 A n c (bL la)) (hb : Rs w0 1 B m d (bL lb)) (ht : Rs w0 1 T t e (bL lt)) :
    Calls Try.prog 4 #[.slice A n c, .slice B m d, .slice T t e] w0 fun e w' => e = .returned (.bool true) ∧ Below w0.heap.size w0 w' :=
  (evens A B T n c m d t e la lb lt w0 ha hb ht).mono fun e w' ⟨u, h1, h2, h3⟩ => by subst h3; exact ⟨h1, h2⟩
end Go.Proofs.Ytaknmlajhedfhaa
