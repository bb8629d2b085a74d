/-
  The law MyersLeast.
-/
import Derived.Test.YtgapdndbelnknaaR
namespace Go.Proofs.Ytgapdndbelnknaa
open Go.RowKit Zk Zx
set_option linter.unusedVariables false
set_option linter.unusedSimpArgs false

set_option maxRecDepth 100000 in
theorem least (A B : Option Addr) (n ca m cb : Nat) (la lb : List Int) (w0 : World) (ha : Rs w0 1 A n ca (iL la)) (hb : Rs w0 1 B m cb (iL lb)) :
    Calls Try.prog 5 #[.slice A n ca, .slice B m cb] w0 fun e w' => ∃ u, e = .returned u ∧ Like w0 w' ∧ u = .bool true := by
  refine enter1 (env := [(0, .slice A n ca), (1, .slice B m cb)]) [.slice A n ca, .slice B m cb] Try.func5 rfl Try.ntmps5 rfl rfl ?_
  have hla := lenI ha; have hlb := lenI hb; have S0 := St.start w0 noM
  refine T_seq fun K1 hK1 => ?_
  refine T_region ?_
  refine L_y (y_assign rfl) rfl ?_
  refine L_nil ?_
  refine hK1 _ _ ?_
  refine T_seq fun K2 hK2 => ?_
  refine T_seq fun K3 hK3 => ?_
  refine T_region ?_
  refine L_y (y_move rfl) rfl ?_
  refine L_y (y_move rfl) rfl ?_
  refine L_o (o_call Try.func7 rfl rfl (long A B n ca m cb w0) rfl rfl ?_)
  rintro e1 w1 ⟨v1, rfl, l1, rfl⟩
  refine ⟨_, rfl, ?_⟩
  have S1 := S0.like l1
  refine L_nil ?_
  refine hK3 _ _ ?_
  refine T_condB rfl (fun h12 => ?_) (fun h12 => ?_)
  ·
    refine T_seq fun K4 hK4 => ?_
    refine T_region ?_
    refine L_o (o_call Try.func8 rfl rfl (works w1) rfl rfl ?_)
    rintro e2 w2 ⟨v2, rfl, l2, rfl⟩
    refine ⟨_, rfl, ?_⟩
    have S2 := S1.like l2
    refine L_y (y_assign rfl) rfl ?_
    refine L_nil ?_
    refine hK4 _ _ ?_
    refine T_ret ?_
    repeat (first | with_reducible refine up_then ?_ | with_reducible refine up_in ?_)
    refine ret1 rfl rfl ?_
    exact ⟨_, rfl, S2.like0, rfl⟩
  ·
    have hl9 := of_decide_eq_false h12
    refine T_skip ?_
    refine hK2 _ _ ?_
    refine T_seq fun K5 hK5 => ?_
    refine T_region ?_
    refine L_y (y_move rfl) rfl ?_
    refine L_y (y_move rfl) rfl ?_
    refine L_o (o_call Try.func9 rfl rfl (fdiff A B n ca m cb la lb w1 (S1.rd ha) (S1.rd hb) (by omega) (by omega)) rfl rfl ?_)
    rintro e3 w3 ⟨v3, rfl, l3, AR, mR, cR, rfl, O3⟩
    refine ⟨_, rfl, ?_⟩
    have S3 := S1.adopt l3 O3
    have hmR := pf_n (S3.row 0 rfl)
    have hk1 := keep_len la lb _ 0 0 rfl (Nat.zero_le _) (Nat.zero_le _)
    obtain ⟨hk2, hk3⟩ := keep_ok la lb _ 0 0 rfl
    refine L_y (y_move rfl) rfl ?_
    refine L_y (y_extract rfl rfl) rfl ?_
    refine L_y (y_extract rfl rfl) rfl ?_
    refine L_y (y_assign rfl) rfl ?_
    refine L_y (y_assign rfl) rfl ?_
    refine L_nil ?_
    refine hK5 _ _ ?_
    refine T_seq fun K6 hK6 => ?_
    refine T_region ?_
    refine L_y (y_move rfl) rfl ?_
    refine L_y (y_move rfl) rfl ?_
    refine L_o (o_call Try.func12 rfl rfl (fdist A B n ca m cb la lb w3 (S3.rd ha) (S3.rd hb) (by omega) (by omega)) rfl rfl ?_)
    rintro e4 w4 ⟨v4, rfl, l4, rfl⟩
    refine ⟨_, rfl, ?_⟩
    have S4 := S3.like l4
    refine L_y (y_move rfl) rfl ?_
    refine L_y (y_extract rfl rfl) rfl ?_
    refine L_y (y_extract rfl rfl) rfl ?_
    refine L_y (y_assign rfl) rfl ?_
    refine L_y (y_assign rfl) rfl ?_
    refine L_nil ?_
    refine hK6 _ _ ?_
    refine T_seq fun K7 hK7 => ?_
    refine T_seq fun K8 hK8 => ?_
    refine T_region ?_
    refine L_y (y_move rfl) rfl ?_
    refine L_y (y_neq rfl rfl) rfl ?_
    refine L_y (y_move rfl) rfl ?_
    refine L_split 28 rfl (fun h28 => ?_) (fun h28 => ?_)
    ·
      exact absurd rfl h28
    ·
      refine L_gyes rfl rfl ?_
      refine L_y (y_move rfl) rfl ?_
      refine L_gyes rfl rfl ?_
      refine L_y (y_neq rfl rfl) rfl ?_
      refine L_y ((by first | exact y_pickT rfl rfl | exact y_pickF rfl rfl)) rfl ?_
      refine L_y (y_move rfl) rfl ?_
      refine L_split 32 rfl (fun h32 => ?_) (fun h32 => ?_)
      ·
        exact absurd rfl h32
      ·
        refine L_gyes rfl rfl ?_
        refine L_y (y_move rfl) rfl ?_
        refine L_gyes rfl rfl ?_
        refine L_y (y_len Try.underlying22 rfl) rfl ?_
        refine L_gyes rfl rfl ?_
        refine L_y (y_move rfl) rfl ?_
        refine L_gyes rfl rfl ?_
        refine L_y (y_len Try.underlying22 rfl) rfl ?_
        refine L_gyes rfl rfl ?_
        refine L_y (y_move rfl) rfl ?_
        refine L_gyes rfl rfl ?_
        refine L_o (o_call Try.func14 rfl rfl (rcheck n m AR mR cR (keepT la lb 0 0) w4 (S4.row 0 rfl) (by omega) (by omega) (fun p hp => by obtain ⟨q1, q2, q3, q4, q5⟩ := hk2 p hp; exact ⟨by omega, by omega⟩) (fun i j p q hij hp hq => by obtain ⟨i1, i2⟩ := List.getElem?_eq_some_iff.1 hp; obtain ⟨j1, j2⟩ := List.getElem?_eq_some_iff.1 hq; subst i2; subst j2; exact List.pairwise_iff_getElem.1 hk3 i j i1 j1 hij)) rfl rfl ?_)
        rintro e7 w7 ⟨v7, rfl, l7, rfl⟩
        refine ⟨_, rfl, ?_⟩
        have S7 := S4.like l7
        refine L_gyes rfl rfl ?_
        refine L_y (y_neq rfl rfl) rfl ?_
        refine L_y ((by first | exact y_pickT rfl rfl | exact y_pickF rfl rfl)) rfl ?_
        refine L_nil ?_
        refine hK8 _ _ ?_
        refine T_cond rfl (fun h40 => ?_) (fun h40 => ?_)
        ·
          exact absurd rfl h40
        ·
          refine T_skip ?_
          refine hK7 _ _ ?_
          refine T_seq fun K9 hK9 => ?_
          refine T_seq fun K10 hK10 => ?_
          refine T_region ?_
          refine L_y (y_assign rfl) rfl ?_
          refine L_nil ?_
          refine hK10 _ _ ?_
          refine T_block ?_
          refine T_loop1 [(0, _), (1, _), (5, _), (7, _)] (fun (k : Nat) => [(9, .int .i64 (k : Int))]) (fun (k : Nat) => mR - k) (fun (k : Nat) (w : World) => k ≤ mR ∧ St w0 noM [row 36 2 AR mR cR ((keepT la lb 0 0).flatMap pf)] w) 0 (Sub.cons rfl (by first | rfl | exact congrArg (Value.int _) (by omega)) (Sub.nil _)) (Sub.cons rfl rfl (Sub.cons rfl rfl (Sub.cons rfl rfl (Sub.cons rfl rfl (Sub.nil _))))) ?_ ?_
          ·
            exact ⟨Nat.zero_le _, S7⟩
          ·
            intro k w8 hrel
            obtain ⟨hk, S8⟩ := hrel
            refine T_seq fun K11 hK11 => ?_
            refine T_seq fun K12 hK12 => ?_
            refine T_region ?_
            refine L_y (y_move rfl) rfl ?_
            refine L_y (y_move rfl) rfl ?_
            refine L_y (y_len Try.underlying25 rfl) rfl ?_
            refine L_y (y_lss rfl rfl) rfl ?_
            refine L_nil ?_
            refine hK12 _ _ ?_
            refine T_cond rfl (fun h44 => ?_) (fun h44 => ?_)
            ·
              obtain ⟨p, hp⟩ : ∃ p, (keepT la lb 0 0)[k]? = some p := ⟨_, List.getElem?_eq_getElem (by omega)⟩
              have hpg := pf_get _ k p hp
              obtain ⟨q1, q2, q3, q4, q5⟩ := hk2 p (List.mem_of_getElem? hp)
              obtain ⟨x, hx⟩ : ∃ x, la[p.1]? = some x := ⟨_, List.getElem?_eq_getElem (by omega)⟩
              have hy : lb[p.2]? = some x := q5.symm.trans hx
              refine T_skip ?_
              refine hK11 _ _ ?_
              refine T_seq fun K13 hK13 => ?_
              refine T_block ?_
              refine T_seq fun K14 hK14 => ?_
              refine T_drawnL [(0, true), (1, true), (2, true), (3, true), (4, true), (5, true), (6, true), (7, true), (8, true), (9, true), (10, true), (11, true), (12, true), (13, true), (14, true), (15, true), (16, true)] hmix (by kernel_rfl) fun w9 l9 => ?_
              have S9 := S8.like l9
              refine DL_y rfl (y_move rfl) rfl ?_
              refine DL_y rfl (y_move rfl) rfl ?_
              refine DL_y rfl (y_move rfl) rfl ?_
              refine DL_y rfl (y_idx Try.underlying25 sz36 rfl rfl (S9.row 0 rfl) inferInstance (by omega)) rfl ?_
              refine DL_y rfl (y_fieldR 0 Try.underlying36 rfl sz3 rfl rfl (S9.row 0 rfl) (by omega) rfl) rfl ?_
              refine DL_y rfl (y_ldf Try.underlying3 rfl rfl (S9.row 0 rfl) (by omega) hpg.1) rfl ?_
              refine DL_y rfl (y_idx Try.underlying22 sz3 rfl rfl (S9.rd ha) inferInstance (by omega)) rfl ?_
              refine DL_y rfl (y_ldr Try.underlying3 rfl rfl (S9.rd ha) (iL_get _ _ _ hx)) rfl ?_
              refine DL_y rfl (y_move rfl) rfl ?_
              refine DL_y rfl (y_move rfl) rfl ?_
              refine DL_y rfl (y_move rfl) rfl ?_
              refine DL_y rfl (y_idx Try.underlying25 sz36 rfl rfl (S9.row 0 rfl) inferInstance (by omega)) rfl ?_
              refine DL_y rfl (y_fieldR 1 Try.underlying36 rfl sz3 rfl rfl (S9.row 0 rfl) (by omega) rfl) rfl ?_
              refine DL_y rfl (y_ldf Try.underlying3 rfl rfl (S9.row 0 rfl) (by omega) hpg.2) rfl ?_
              refine DL_y rfl (y_idx Try.underlying22 sz3 rfl rfl (S9.rd hb) inferInstance (by omega)) rfl ?_
              refine DL_y rfl (y_ldr Try.underlying3 rfl rfl (S9.rd hb) (iL_get _ _ _ hy)) rfl ?_
              refine DL_y rfl (y_neq rfl rfl) rfl ?_
              refine DL_nil ?_
              refine hK14 _ _ ?_
              refine T_cond rfl (fun h63 => ?_) (fun h63 => ?_)
              ·
                exact absurd rfl h63
              ·
                refine T_skip ?_
                refine hK13 _ _ ?_
                refine T_region ?_
                refine L_y (y_move rfl) rfl ?_
                refine L_y (y_add rfl rfl (i64w (by omega))) rfl ?_
                refine L_y (y_assign rfl) rfl ?_
                refine L_nil ?_
                refine ⟨k + 1, by omega, ⟨by omega, S9⟩, ?_⟩
                exact (Sub.cons rfl (by first | rfl | exact congrArg (Value.int _) (by omega)) (Sub.cons rfl rfl (Sub.cons rfl rfl (Sub.cons rfl rfl (Sub.cons rfl rfl (Sub.nil _))))))
            ·
              refine T_exit ?_
              refine hK9 _ _ ?_
              refine T_seq fun K15 hK15 => ?_
              refine T_region ?_
              refine L_y (y_move rfl) rfl ?_
              refine L_y (y_len Try.underlying25 rfl) rfl ?_
              refine L_y (y_move rfl) rfl ?_
              refine L_y (y_move rfl) rfl ?_
              refine L_o (o_call Try.func15 rfl rfl (rlcs A B n ca m cb la lb w8 (S8.rd ha) (S8.rd hb) (by omega) (by omega)) rfl rfl ?_)
              rintro e10 w10 ⟨v10, rfl, l10, rfl⟩
              refine ⟨_, rfl, ?_⟩
              have S10 := S8.like l10
              refine L_y (y_eql rfl rfl) rfl ?_
              refine L_y (y_move rfl) rfl ?_
              refine L_split 70 rfl (fun h70 => ?_) (fun h70 => ?_)
              ·
                refine L_gyes rfl rfl ?_
                refine L_y (y_move rfl) rfl ?_
                refine L_gyes rfl rfl ?_
                refine L_y (y_move rfl) rfl ?_
                refine L_gyes rfl rfl ?_
                refine L_y (y_len Try.underlying22 rfl) rfl ?_
                refine L_gyes rfl rfl ?_
                refine L_y (y_move rfl) rfl ?_
                refine L_gyes rfl rfl ?_
                refine L_y (y_len Try.underlying22 rfl) rfl ?_
                refine L_gyes rfl rfl ?_
                refine L_y (y_add rfl rfl (i64w (by omega))) rfl ?_
                refine L_gyes rfl rfl ?_
                refine L_y (y_move rfl) rfl ?_
                refine L_gyes rfl rfl ?_
                refine L_y (y_len Try.underlying25 rfl) rfl ?_
                refine L_gyes rfl rfl ?_
                refine L_y (y_mul rfl rfl (i64w (by omega))) rfl ?_
                refine L_gyes rfl rfl ?_
                refine L_y (y_sub rfl rfl (i64w (by omega))) rfl ?_
                refine L_gyes rfl rfl ?_
                refine L_y (y_eql rfl rfl) rfl ?_
                refine L_y ((by first | exact y_pickT rfl rfl | exact y_pickF rfl rfl)) rfl ?_
                refine L_y (y_move rfl) rfl ?_
                refine L_split 83 rfl (fun h83 => ?_) (fun h83 => ?_)
                ·
                  refine L_gyes rfl rfl ?_
                  refine L_o (o_call Try.func8 rfl rfl (works w10) rfl rfl ?_)
                  rintro e13 w13 ⟨v13, rfl, l13, rfl⟩
                  refine ⟨_, rfl, ?_⟩
                  have S13 := S10.like l13
                  refine L_y ((by first | exact y_pickT rfl rfl | exact y_pickF rfl rfl)) rfl ?_
                  refine L_y (y_assign rfl) rfl ?_
                  refine L_nil ?_
                  refine hK15 _ _ ?_
                  refine T_ret ?_
                  repeat (first | with_reducible refine up_then ?_ | with_reducible refine up_in ?_)
                  refine ret1 rfl rfl ?_
                  exact ⟨_, rfl, S13.like0, rfl⟩
                ·
                  exact absurd (by omega) h83
              ·
                exact absurd (by unfold lC; omega) h70


theorem least_law (A B : Option Addr) (n ca m cb : Nat) (la lb : List Int) (w0 : World) (ha : Rs w0 1 A n ca (iL la)) (hb : Rs w0 1 B m cb (iL lb)) :
    Calls Try.prog 5 #[.slice A n ca, .slice B m cb] w0 fun e w' => e = .returned (.bool true) ∧ Below w0.heap.size w0 w' :=
  (least A B n ca m cb la lb w0 ha hb).mono fun e w' ⟨u, h1, h2, h3⟩ => by subst h3; exact ⟨h1, h2⟩
end Go.Proofs.Ytgapdndbelnknaa
