/-
  The law MyersBlocks.
-/
import Derived.Test.YtgapdndbelnknaaU
namespace Go.Proofs.Ytgapdndbelnknaa
open Go.RowKit Zk Zx
set_option linter.unusedVariables false
set_option linter.unusedSimpArgs false

theorem ed_app (z x y : List Int) : ed (z ++ x) (z ++ y) = ed x y := by
  induction z with
  | nil => rfl
  | cons a z ih => rw [List.cons_append, List.cons_append, ed_eq, ih]
theorem rR_app (z x y : List Int) : rR (z ++ x) (z ++ y) 0 0 = rR x y 0 0 := ed_app z x y
theorem hbd_keep (la lb : List Int) (n m : Nat) (h1 : la.length = n) (h2 : lb.length = m) (hn : n ≤ 4096) (hm : m ≤ 4096) : ∀ p ∈ keepT la lb 0 0 ++ [(n, m)], p.1 ≤ 4096 ∧ p.2 ≤ 4096 := fun p hp => by
  rcases List.mem_append.1 hp with hp | hp
  · obtain ⟨q1, q2, q3, q4, q5⟩ := (keep_ok la lb _ 0 0 rfl).1 p hp
    exact ⟨by omega, by omega⟩
  · obtain rfl := List.mem_singleton.1 hp
    exact ⟨by omega, by omega⟩
theorem zeros_iL (s : Nat) (l : List Int) : ([] ++ List.replicate s (Value.int .i64 0) ++ iL l : List Value) = iL (List.replicate s 0 ++ l) := by
  rw [iL_app, List.nil_append]
  simp [iL]
theorem rep_one (s : Nat) : ∀ u ∈ List.replicate s (Value.int .i64 0), u.oneCell' = true := fun u hu => by
  obtain ⟨_, rfl⟩ := List.mem_replicate.1 hu
  rfl


set_option maxRecDepth 100000 in
theorem blocksS (A B : Option Addr) (n ca m cb : Nat) (la lb : List Int) (v : Int) (w0 : World) (ha : Rs w0 1 A n ca (iL la)) (hb : Rs w0 1 B m cb (iL lb)) (hv : 0 ≤ v ∧ v < 65536) (hs1 : v % 1000 + n ≤ 800) (hs2 : v % 1000 + m ≤ 800) :
    Calls Try.prog 6 #[.slice A n ca, .slice B m cb, .int .u16 v] w0 fun e w' => ∃ u, e = .returned u ∧ Like w0 w' ∧ u = .bool true := by
  refine enter1 (env := [(0, .slice A n ca), (1, .slice B m cb), (2, .int .u16 v)]) [.slice A n ca, .slice B m cb, .int .u16 v] Try.func6 rfl Try.ntmps6 rfl rfl ?_
  have hrf := rR_facts la lb 0 0; have hla := lenI ha; have hlb := lenI hb; have S0 := St.start w0 noM
  refine T_seq fun K1 hK1 => ?_
  refine T_region ?_
  refine L_y (y_assign rfl) rfl ?_
  refine L_nil ?_
  refine hK1 _ _ ?_
  refine T_seq fun K2 hK2 => ?_
  refine T_seq fun K3 hK3 => ?_
  refine T_region ?_
  refine L_y (y_move rfl) rfl ?_
  refine L_y (y_move rfl) rfl ?_
  refine L_o (o_call Try.func7 rfl rfl (long A B n ca m cb w0) rfl rfl ?_)
  rintro e1 w1 ⟨v1, rfl, l1, rfl⟩
  refine ⟨_, rfl, ?_⟩
  have S1 := S0.like l1
  refine L_nil ?_
  refine hK3 _ _ ?_
  refine T_condB rfl (fun h20 => ?_) (fun h20 => ?_)
  ·
    refine T_seq fun K4 hK4 => ?_
    refine T_region ?_
    refine L_o (o_call Try.func8 rfl rfl (works w1) rfl rfl ?_)
    rintro e2 w2 ⟨v2, rfl, l2, rfl⟩
    refine ⟨_, rfl, ?_⟩
    have S2 := S1.like l2
    refine L_y (y_assign rfl) rfl ?_
    refine L_nil ?_
    refine hK4 _ _ ?_
    refine T_ret ?_
    repeat (first | with_reducible refine up_then ?_ | with_reducible refine up_in ?_)
    refine ret1 rfl rfl ?_
    exact ⟨_, rfl, S2.like0, rfl⟩
  ·
    have hl9 := of_decide_eq_false h20
    refine T_skip ?_
    refine hK2 _ _ ?_
    refine T_seq fun K5 hK5 => ?_
    refine T_region ?_
    refine L_y (y_move rfl) rfl ?_
    refine L_y (y_move rfl) rfl ?_
    refine L_o (o_call Try.func16 rfl rfl (fblocks A B n ca m cb la lb w1 (S1.rd ha) (S1.rd hb) (by omega) (by omega)) rfl rfl ?_)
    rintro e3 w3 ⟨v3, rfl, l3, AH, cH, qH, rfl, O3⟩
    refine ⟨_, rfl, ?_⟩
    have S3 := S1.adopt l3 O3
    refine L_y (y_move rfl) rfl ?_
    refine L_y (y_extract rfl rfl) rfl ?_
    refine L_y (y_extract rfl rfl) rfl ?_
    refine L_y (y_assign rfl) rfl ?_
    refine L_y (y_assign rfl) rfl ?_
    refine L_nil ?_
    refine hK5 _ _ ?_
    refine T_seq fun K6 hK6 => ?_
    refine T_seq fun K7 hK7 => ?_
    refine T_region ?_
    refine L_y (y_move rfl) rfl ?_
    refine L_y (y_neq rfl rfl) rfl ?_
    refine L_y (y_move rfl) rfl ?_
    refine L_split 30 rfl (fun h30 => ?_) (fun h30 => ?_)
    ·
      exact absurd rfl h30
    ·
      refine L_gyes rfl rfl ?_
      refine L_y (y_move rfl) rfl ?_
      refine L_gyes rfl rfl ?_
      refine L_y (y_move rfl) rfl ?_
      refine L_gyes rfl rfl ?_
      refine L_y (y_len Try.underlying22 rfl) rfl ?_
      refine L_gyes rfl rfl ?_
      refine L_y (y_move rfl) rfl ?_
      refine L_gyes rfl rfl ?_
      refine L_y (y_len Try.underlying22 rfl) rfl ?_
      refine L_gyes rfl rfl ?_
      refine L_y (y_move rfl) rfl ?_
      refine L_gyes rfl rfl ?_
      refine L_y (y_move rfl) rfl ?_
      refine L_gyes rfl rfl ?_
      refine L_o (o_call Try.func11 rfl rfl (rdiff A B n ca m cb la lb w3 (S3.rd ha) (S3.rd hb) (by omega) (by omega)) rfl rfl ?_)
      rintro e5 w5 ⟨v5, rfl, l5, AQ, mQ, cQ, rfl, O5⟩
      refine ⟨_, rfl, ?_⟩
      have S5 := S3.adopt l5 O5
      have hmQ := pf_n (S5.row 1 rfl)
      have hk1 := keep_len la lb _ 0 0 rfl (Nat.zero_le _) (Nat.zero_le _)
      refine L_gyes rfl rfl ?_
      refine L_o (o_call Try.func18 rfl rfl (rhunks n m AQ mQ cQ (keepT la lb 0 0) w5 (S5.row 1 rfl) (by omega) (by omega) (by omega) (hbd_keep la lb n m hla hlb (by omega) (by omega))) rfl rfl ?_)
      rintro e6 w6 ⟨v6, rfl, l6, AG, cG, qG, rfl, O6⟩
      refine ⟨_, rfl, ?_⟩
      have S6 := S5.adopt l6 O6
      refine L_gyes rfl rfl ?_
      refine L_o (o_call Try.func17 rfl rfl (rsameh AH AG qH cH qG cG _ w6 (S6.row 0 rfl) (S6.row 2 rfl)) rfl rfl ?_)
      rintro e7 w7 ⟨v7, rfl, l7, rfl⟩
      refine ⟨_, rfl, ?_⟩
      have S7 := S6.like l7
      refine L_gyes rfl rfl ?_
      refine L_y ((by first | exact y_notD rfl | exact y_not rfl)) rfl ?_
      refine L_y ((by first | exact y_pickT rfl rfl | exact y_pickF rfl rfl)) rfl ?_
      refine L_nil ?_
      refine hK7 _ _ ?_
      refine T_false rfl ?_
      refine T_skip ?_
      refine hK6 _ _ ?_
      refine T_seq fun K8 hK8 => ?_
      refine T_region ?_
      refine L_y (y_move rfl) rfl ?_
      refine L_y (y_conv is37 Try.underlying3 rfl (i64w (by omega))) rfl ?_
      refine L_y (y_rem rfl rfl (by omega) (remI (by omega))) rfl ?_
      obtain ⟨s, hs⟩ : ∃ s : Nat, v % 1000 = s := ⟨(v % 1000).toNat, by omega⟩
      refine L_o (o_make te22 rfl S7 rfl rfl (Nt.mk (by omega) : Nt _ s) (Nt.mk (by omega) : Nt _ s) rfl (by omega) (by omega) (by omega) fun b8 w8 S8 => ?_)
      refine L_y (y_assign rfl) rfl ?_
      refine L_nil ?_
      refine hK8 _ _ ?_
      refine T_seq fun K9 hK9 => ?_
      refine T_region ?_
      refine L_o (o_bsl0 te22 S8 rfl fun b9 w9 l9 S9 => ?_)
      refine L_y (y_move rfl) rfl ?_
      refine L_o (o_app te22 S9 4 rfl rfl rfl (S9.row 3 rfl) (rep_one _) rfl (by omega) (by omega) fun A10 c10 w10 S10 => ?_)
      refine L_y (y_move rfl) rfl ?_
      refine L_o (o_app te22 S10 4 rfl rfl rfl (S10.rd ha) (iL_one _) rfl (by omega) (by omega) fun A11 c11 w11 S11 => ?_)
      have Sr47 := S11.rowc 4 rfl (n' := 0 + s + n) (xs' := iL (List.replicate s 0 ++ la)) rfl (zeros_iL s la)
      refine L_y (y_assign rfl) rfl ?_
      refine L_nil ?_
      refine hK9 _ _ ?_
      refine T_seq fun K10 hK10 => ?_
      refine T_region ?_
      refine L_o (o_bsl0 te22 Sr47 rfl fun b12 w12 l12 S12 => ?_)
      refine L_y (y_move rfl) rfl ?_
      refine L_o (o_app te22 S12 5 rfl rfl rfl (S12.row 3 rfl) (rep_one _) rfl (by omega) (by omega) fun A13 c13 w13 S13 => ?_)
      refine L_y (y_move rfl) rfl ?_
      refine L_o (o_app te22 S13 5 rfl rfl rfl (S13.rd hb) (iL_one _) rfl (by omega) (by omega) fun A14 c14 w14 S14 => ?_)
      have Sr52 := S14.rowc 5 rfl (n' := 0 + s + m) (xs' := iL (List.replicate s 0 ++ lb)) rfl (zeros_iL s lb)
      refine L_y (y_assign rfl) rfl ?_
      refine L_nil ?_
      refine hK10 _ _ ?_
      refine T_seq fun K11 hK11 => ?_
      refine T_region ?_
      refine L_y (y_move rfl) rfl ?_
      refine L_y (y_move rfl) rfl ?_
      refine L_o (o_call Try.func9 rfl rfl (fdiff _ _ _ _ _ _ (List.replicate s 0 ++ la) (List.replicate s 0 ++ lb) w14 (Sr52.row 4 rfl) (Sr52.row 5 rfl) (by omega) (by omega)) rfl rfl ?_)
      rintro e15 w15 ⟨v15, rfl, l15, AX, mX, cX, rfl, O15⟩
      refine ⟨_, rfl, ?_⟩
      have S15 := Sr52.adopt l15 O15
      have hmX := pf_n (S15.row 6 rfl)
      have hkx := keep_len (List.replicate s 0 ++ la) (List.replicate s 0 ++ lb) _ 0 0 rfl (Nat.zero_le _) (Nat.zero_le _)
      rw [rR_app] at hkx
      simp only [List.length_append, List.length_replicate] at hkx
      refine L_y (y_move rfl) rfl ?_
      refine L_y (y_extract rfl rfl) rfl ?_
      refine L_y (y_extract rfl rfl) rfl ?_
      refine L_y (y_assign rfl) rfl ?_
      refine L_y (y_assign rfl) rfl ?_
      refine L_nil ?_
      refine hK11 _ _ ?_
      refine T_seq fun K12 hK12 => ?_
      refine T_region ?_
      refine L_y (y_move rfl) rfl ?_
      refine L_y (y_move rfl) rfl ?_
      refine L_o (o_call Try.func12 rfl rfl (fdist _ _ _ _ _ _ (List.replicate s 0 ++ la) (List.replicate s 0 ++ lb) w15 (S15.row 4 rfl) (S15.row 5 rfl) (by omega) (by omega)) rfl rfl ?_)
      rintro e16 w16 ⟨v16, rfl, l16, rfl⟩
      refine ⟨_, rfl, ?_⟩
      have S16 := S15.like l16
      refine L_y (y_move rfl) rfl ?_
      refine L_y (y_extract rfl rfl) rfl ?_
      refine L_y (y_extract rfl rfl) rfl ?_
      refine L_y (y_assign rfl) rfl ?_
      refine L_y (y_assign rfl) rfl ?_
      refine L_nil ?_
      refine hK12 _ _ ?_
      refine T_seq fun K13 hK13 => ?_
      refine T_region ?_
      refine L_y (y_move rfl) rfl ?_
      refine L_y (y_move rfl) rfl ?_
      refine L_o (o_call Try.func16 rfl rfl (fblocks _ _ _ _ _ _ (List.replicate s 0 ++ la) (List.replicate s 0 ++ lb) w16 (S16.row 4 rfl) (S16.row 5 rfl) (by omega) (by omega)) rfl rfl ?_)
      rintro e17 w17 ⟨v17, rfl, l17, AY, cY, qY, rfl, O17⟩
      refine ⟨_, rfl, ?_⟩
      have S17 := S16.adopt l17 O17
      refine L_y (y_move rfl) rfl ?_
      refine L_y (y_extract rfl rfl) rfl ?_
      refine L_y (y_extract rfl rfl) rfl ?_
      refine L_y (y_assign rfl) rfl ?_
      refine L_y (y_assign rfl) rfl ?_
      refine L_nil ?_
      refine hK13 _ _ ?_
      refine T_seq fun K14 hK14 => ?_
      refine T_seq fun K15 hK15 => ?_
      refine T_region ?_
      refine L_y (y_move rfl) rfl ?_
      refine L_y (y_len Try.underlying22 rfl) rfl ?_
      refine L_y (y_gtr rfl rfl) rfl ?_
      refine L_y (y_move rfl) rfl ?_
      refine L_split 78 rfl (fun h78 => ?_) (fun h78 => ?_)
      ·
        exact absurd h78 (by omega)
      ·
        refine L_gyes rfl rfl ?_
        refine L_y (y_move rfl) rfl ?_
        refine L_gyes rfl rfl ?_
        refine L_y (y_len Try.underlying22 rfl) rfl ?_
        refine L_gyes rfl rfl ?_
        refine L_y (y_gtr rfl rfl) rfl ?_
        refine L_y ((by first | exact y_pickT rfl rfl | exact y_pickF rfl rfl)) rfl ?_
        refine L_nil ?_
        refine hK15 _ _ ?_
        refine T_cond rfl (fun h82 => ?_) (fun h82 => ?_)
        ·
          exact absurd h82 (by omega)
        ·
          refine T_skip ?_
          refine hK14 _ _ ?_
          refine T_seq fun K16 hK16 => ?_
          refine T_region ?_
          refine L_y (y_move rfl) rfl ?_
          refine L_y (y_eql rfl rfl) rfl ?_
          refine L_y (y_move rfl) rfl ?_
          refine L_split 105 rfl (fun h105 => ?_) (fun h105 => ?_)
          ·
            refine L_gyes rfl rfl ?_
            refine L_y (y_move rfl) rfl ?_
            refine L_gyes rfl rfl ?_
            refine L_y (y_move rfl) rfl ?_
            refine L_gyes rfl rfl ?_
            refine L_y (y_eql rfl rfl) rfl ?_
            refine L_y ((by first | exact y_pickT rfl rfl | exact y_pickF rfl rfl)) rfl ?_
            refine L_y (y_move rfl) rfl ?_
            refine L_split 110 rfl (fun h110 => ?_) (fun h110 => ?_)
            ·
              refine L_gyes rfl rfl ?_
              refine L_y (y_move rfl) rfl ?_
              refine L_gyes rfl rfl ?_
              refine L_y (y_move rfl) rfl ?_
              refine L_gyes rfl rfl ?_
              refine L_y (y_eql rfl rfl) rfl ?_
              refine L_y ((by first | exact y_pickT rfl rfl | exact y_pickF rfl rfl)) rfl ?_
              refine L_y (y_move rfl) rfl ?_
              refine L_split 115 rfl (fun h115 => ?_) (fun h115 => ?_)
              ·
                refine L_gyes rfl rfl ?_
                refine L_y (y_move rfl) rfl ?_
                refine L_gyes rfl rfl ?_
                refine L_y (y_len Try.underlying25 rfl) rfl ?_
                refine L_gyes rfl rfl ?_
                refine L_y (y_move rfl) rfl ?_
                refine L_gyes rfl rfl ?_
                refine L_y (y_len Try.underlying22 rfl) rfl ?_
                refine L_gyes rfl rfl ?_
                refine L_y (y_geq rfl rfl) rfl ?_
                refine L_y ((by first | exact y_pickT rfl rfl | exact y_pickF rfl rfl)) rfl ?_
                refine L_y (y_move rfl) rfl ?_
                refine L_split 122 rfl (fun h122 => ?_) (fun h122 => ?_)
                ·
                  refine L_gyes rfl rfl ?_
                  refine L_o (o_call Try.func8 rfl rfl (works w17) rfl rfl ?_)
                  rintro e23 w23 ⟨v23, rfl, l23, rfl⟩
                  refine ⟨_, rfl, ?_⟩
                  have S23 := S17.like l23
                  refine L_y ((by first | exact y_pickT rfl rfl | exact y_pickF rfl rfl)) rfl ?_
                  refine L_y (y_assign rfl) rfl ?_
                  refine L_nil ?_
                  refine hK16 _ _ ?_
                  refine T_ret ?_
                  repeat (first | with_reducible refine up_then ?_ | with_reducible refine up_in ?_)
                  refine ret1 rfl rfl ?_
                  exact ⟨_, rfl, S23.like0, rfl⟩
                ·
                  exact absurd (by omega) h122
              ·
                exact absurd rfl h115
            ·
              exact absurd rfl h110
          ·
            exact absurd rfl h105


set_option maxRecDepth 100000 in
theorem blocksL (A B : Option Addr) (n ca m cb : Nat) (la lb : List Int) (v : Int) (w0 : World) (ha : Rs w0 1 A n ca (iL la)) (hb : Rs w0 1 B m cb (iL lb)) (hv : 0 ≤ v ∧ v < 65536) (hlong : 800 < v % 1000 + n ∨ 800 < v % 1000 + m) :
    Calls Try.prog 6 #[.slice A n ca, .slice B m cb, .int .u16 v] w0 fun e w' => ∃ u, e = .returned u ∧ Like w0 w' ∧ u = .bool true := by
  refine enter1 (env := [(0, .slice A n ca), (1, .slice B m cb), (2, .int .u16 v)]) [.slice A n ca, .slice B m cb, .int .u16 v] Try.func6 rfl Try.ntmps6 rfl rfl ?_
  have hrf := rR_facts la lb 0 0; have hla := lenI ha; have hlb := lenI hb; have S0 := St.start w0 noM
  refine T_seq fun K1 hK1 => ?_
  refine T_region ?_
  refine L_y (y_assign rfl) rfl ?_
  refine L_nil ?_
  refine hK1 _ _ ?_
  refine T_seq fun K2 hK2 => ?_
  refine T_seq fun K3 hK3 => ?_
  refine T_region ?_
  refine L_y (y_move rfl) rfl ?_
  refine L_y (y_move rfl) rfl ?_
  refine L_o (o_call Try.func7 rfl rfl (long A B n ca m cb w0) rfl rfl ?_)
  rintro e1 w1 ⟨v1, rfl, l1, rfl⟩
  refine ⟨_, rfl, ?_⟩
  have S1 := S0.like l1
  refine L_nil ?_
  refine hK3 _ _ ?_
  refine T_condB rfl (fun h20 => ?_) (fun h20 => ?_)
  ·
    refine T_seq fun K4 hK4 => ?_
    refine T_region ?_
    refine L_o (o_call Try.func8 rfl rfl (works w1) rfl rfl ?_)
    rintro e2 w2 ⟨v2, rfl, l2, rfl⟩
    refine ⟨_, rfl, ?_⟩
    have S2 := S1.like l2
    refine L_y (y_assign rfl) rfl ?_
    refine L_nil ?_
    refine hK4 _ _ ?_
    refine T_ret ?_
    repeat (first | with_reducible refine up_then ?_ | with_reducible refine up_in ?_)
    refine ret1 rfl rfl ?_
    exact ⟨_, rfl, S2.like0, rfl⟩
  ·
    have hl9 := of_decide_eq_false h20
    refine T_skip ?_
    refine hK2 _ _ ?_
    refine T_seq fun K5 hK5 => ?_
    refine T_region ?_
    refine L_y (y_move rfl) rfl ?_
    refine L_y (y_move rfl) rfl ?_
    refine L_o (o_call Try.func16 rfl rfl (fblocks A B n ca m cb la lb w1 (S1.rd ha) (S1.rd hb) (by omega) (by omega)) rfl rfl ?_)
    rintro e3 w3 ⟨v3, rfl, l3, AH, cH, qH, rfl, O3⟩
    refine ⟨_, rfl, ?_⟩
    have S3 := S1.adopt l3 O3
    refine L_y (y_move rfl) rfl ?_
    refine L_y (y_extract rfl rfl) rfl ?_
    refine L_y (y_extract rfl rfl) rfl ?_
    refine L_y (y_assign rfl) rfl ?_
    refine L_y (y_assign rfl) rfl ?_
    refine L_nil ?_
    refine hK5 _ _ ?_
    refine T_seq fun K6 hK6 => ?_
    refine T_seq fun K7 hK7 => ?_
    refine T_region ?_
    refine L_y (y_move rfl) rfl ?_
    refine L_y (y_neq rfl rfl) rfl ?_
    refine L_y (y_move rfl) rfl ?_
    refine L_split 30 rfl (fun h30 => ?_) (fun h30 => ?_)
    ·
      exact absurd rfl h30
    ·
      refine L_gyes rfl rfl ?_
      refine L_y (y_move rfl) rfl ?_
      refine L_gyes rfl rfl ?_
      refine L_y (y_move rfl) rfl ?_
      refine L_gyes rfl rfl ?_
      refine L_y (y_len Try.underlying22 rfl) rfl ?_
      refine L_gyes rfl rfl ?_
      refine L_y (y_move rfl) rfl ?_
      refine L_gyes rfl rfl ?_
      refine L_y (y_len Try.underlying22 rfl) rfl ?_
      refine L_gyes rfl rfl ?_
      refine L_y (y_move rfl) rfl ?_
      refine L_gyes rfl rfl ?_
      refine L_y (y_move rfl) rfl ?_
      refine L_gyes rfl rfl ?_
      refine L_o (o_call Try.func11 rfl rfl (rdiff A B n ca m cb la lb w3 (S3.rd ha) (S3.rd hb) (by omega) (by omega)) rfl rfl ?_)
      rintro e5 w5 ⟨v5, rfl, l5, AQ, mQ, cQ, rfl, O5⟩
      refine ⟨_, rfl, ?_⟩
      have S5 := S3.adopt l5 O5
      have hmQ := pf_n (S5.row 1 rfl)
      have hk1 := keep_len la lb _ 0 0 rfl (Nat.zero_le _) (Nat.zero_le _)
      refine L_gyes rfl rfl ?_
      refine L_o (o_call Try.func18 rfl rfl (rhunks n m AQ mQ cQ (keepT la lb 0 0) w5 (S5.row 1 rfl) (by omega) (by omega) (by omega) (hbd_keep la lb n m hla hlb (by omega) (by omega))) rfl rfl ?_)
      rintro e6 w6 ⟨v6, rfl, l6, AG, cG, qG, rfl, O6⟩
      refine ⟨_, rfl, ?_⟩
      have S6 := S5.adopt l6 O6
      refine L_gyes rfl rfl ?_
      refine L_o (o_call Try.func17 rfl rfl (rsameh AH AG qH cH qG cG _ w6 (S6.row 0 rfl) (S6.row 2 rfl)) rfl rfl ?_)
      rintro e7 w7 ⟨v7, rfl, l7, rfl⟩
      refine ⟨_, rfl, ?_⟩
      have S7 := S6.like l7
      refine L_gyes rfl rfl ?_
      refine L_y ((by first | exact y_notD rfl | exact y_not rfl)) rfl ?_
      refine L_y ((by first | exact y_pickT rfl rfl | exact y_pickF rfl rfl)) rfl ?_
      refine L_nil ?_
      refine hK7 _ _ ?_
      refine T_false rfl ?_
      refine T_skip ?_
      refine hK6 _ _ ?_
      refine T_seq fun K8 hK8 => ?_
      refine T_region ?_
      refine L_y (y_move rfl) rfl ?_
      refine L_y (y_conv is37 Try.underlying3 rfl (i64w (by omega))) rfl ?_
      refine L_y (y_rem rfl rfl (by omega) (remI (by omega))) rfl ?_
      obtain ⟨s, hs⟩ : ∃ s : Nat, v % 1000 = s := ⟨(v % 1000).toNat, by omega⟩
      refine L_o (o_make te22 rfl S7 rfl rfl (Nt.mk (by omega) : Nt _ s) (Nt.mk (by omega) : Nt _ s) rfl (by omega) (by omega) (by omega) fun b8 w8 S8 => ?_)
      refine L_y (y_assign rfl) rfl ?_
      refine L_nil ?_
      refine hK8 _ _ ?_
      refine T_seq fun K9 hK9 => ?_
      refine T_region ?_
      refine L_o (o_bsl0 te22 S8 rfl fun b9 w9 l9 S9 => ?_)
      refine L_y (y_move rfl) rfl ?_
      refine L_o (o_app te22 S9 4 rfl rfl rfl (S9.row 3 rfl) (rep_one _) rfl (by omega) (by omega) fun A10 c10 w10 S10 => ?_)
      refine L_y (y_move rfl) rfl ?_
      refine L_o (o_app te22 S10 4 rfl rfl rfl (S10.rd ha) (iL_one _) rfl (by omega) (by omega) fun A11 c11 w11 S11 => ?_)
      have Sr47 := S11.rowc 4 rfl (n' := 0 + s + n) (xs' := iL (List.replicate s 0 ++ la)) rfl (zeros_iL s la)
      refine L_y (y_assign rfl) rfl ?_
      refine L_nil ?_
      refine hK9 _ _ ?_
      refine T_seq fun K10 hK10 => ?_
      refine T_region ?_
      refine L_o (o_bsl0 te22 Sr47 rfl fun b12 w12 l12 S12 => ?_)
      refine L_y (y_move rfl) rfl ?_
      refine L_o (o_app te22 S12 5 rfl rfl rfl (S12.row 3 rfl) (rep_one _) rfl (by omega) (by omega) fun A13 c13 w13 S13 => ?_)
      refine L_y (y_move rfl) rfl ?_
      refine L_o (o_app te22 S13 5 rfl rfl rfl (S13.rd hb) (iL_one _) rfl (by omega) (by omega) fun A14 c14 w14 S14 => ?_)
      have Sr52 := S14.rowc 5 rfl (n' := 0 + s + m) (xs' := iL (List.replicate s 0 ++ lb)) rfl (zeros_iL s lb)
      refine L_y (y_assign rfl) rfl ?_
      refine L_nil ?_
      refine hK10 _ _ ?_
      refine T_seq fun K11 hK11 => ?_
      refine T_region ?_
      refine L_y (y_move rfl) rfl ?_
      refine L_y (y_move rfl) rfl ?_
      refine L_o (o_call Try.func9 rfl rfl (fdiffL _ _ _ _ _ _ (List.replicate s 0 ++ la) (List.replicate s 0 ++ lb) w14 (Sr52.row 4 rfl) (Sr52.row 5 rfl) (by omega)) rfl rfl ?_)
      rintro e15 w15 ⟨v15, rfl, l15, rfl⟩
      refine ⟨_, rfl, ?_⟩
      have S15 := Sr52.like l15
      refine L_y (y_move rfl) rfl ?_
      refine L_y (y_extract rfl rfl) rfl ?_
      refine L_y (y_extract rfl rfl) rfl ?_
      refine L_y (y_assign rfl) rfl ?_
      refine L_y (y_assign rfl) rfl ?_
      refine L_nil ?_
      refine hK11 _ _ ?_
      refine T_seq fun K12 hK12 => ?_
      refine T_region ?_
      refine L_y (y_move rfl) rfl ?_
      refine L_y (y_move rfl) rfl ?_
      refine L_o (o_call Try.func12 rfl rfl (fdistL _ _ _ _ _ _ (List.replicate s 0 ++ la) (List.replicate s 0 ++ lb) w15 (S15.row 4 rfl) (S15.row 5 rfl) (by omega)) rfl rfl ?_)
      rintro e16 w16 ⟨v16, rfl, l16, rfl⟩
      refine ⟨_, rfl, ?_⟩
      have S16 := S15.like l16
      refine L_y (y_move rfl) rfl ?_
      refine L_y (y_extract rfl rfl) rfl ?_
      refine L_y (y_extract rfl rfl) rfl ?_
      refine L_y (y_assign rfl) rfl ?_
      refine L_y (y_assign rfl) rfl ?_
      refine L_nil ?_
      refine hK12 _ _ ?_
      refine T_seq fun K13 hK13 => ?_
      refine T_region ?_
      refine L_y (y_move rfl) rfl ?_
      refine L_y (y_move rfl) rfl ?_
      refine L_o (o_call Try.func16 rfl rfl (fblocksL _ _ _ _ _ _ (List.replicate s 0 ++ la) (List.replicate s 0 ++ lb) w16 (S16.row 4 rfl) (S16.row 5 rfl) (by omega)) rfl rfl ?_)
      rintro e17 w17 ⟨v17, rfl, l17, rfl⟩
      refine ⟨_, rfl, ?_⟩
      have S17 := S16.like l17
      refine L_y (y_move rfl) rfl ?_
      refine L_y (y_extract rfl rfl) rfl ?_
      refine L_y (y_extract rfl rfl) rfl ?_
      refine L_y (y_assign rfl) rfl ?_
      refine L_y (y_assign rfl) rfl ?_
      refine L_nil ?_
      refine hK13 _ _ ?_
      refine T_seq fun K14 hK14 => ?_
      refine T_seq fun K15 hK15 => ?_
      refine T_region ?_
      refine L_y (y_move rfl) rfl ?_
      refine L_y (y_len Try.underlying22 rfl) rfl ?_
      refine L_y (y_gtr rfl rfl) rfl ?_
      refine L_y (y_move rfl) rfl ?_
      refine L_split 78 rfl (fun h78 => ?_) (fun h78 => ?_)
      ·
        refine L_gno rfl rfl rfl ?_
        refine L_gno rfl rfl rfl ?_
        refine L_gno rfl rfl rfl ?_
        refine L_y ((by first | exact y_pickT rfl rfl | exact y_pickF rfl rfl)) rfl ?_
        refine L_nil ?_
        refine hK15 _ _ ?_
        refine T_true rfl ?_
        refine T_seq fun K16 hK16 => ?_
        refine T_region ?_
        refine L_y (y_move rfl) rfl ?_
        refine L_y (y_eql rfl rfl) rfl ?_
        refine L_y (y_move rfl) rfl ?_
        refine L_split 85 rfl (fun h85 => ?_) (fun h85 => ?_)
        ·
          refine L_gyes rfl rfl ?_
          refine L_y (y_move rfl) rfl ?_
          refine L_gyes rfl rfl ?_
          refine L_y (y_move rfl) rfl ?_
          refine L_gyes rfl rfl ?_
          refine L_y (y_eql rfl rfl) rfl ?_
          refine L_y ((by first | exact y_pickT rfl rfl | exact y_pickF rfl rfl)) rfl ?_
          refine L_y (y_move rfl) rfl ?_
          refine L_split 90 rfl (fun h90 => ?_) (fun h90 => ?_)
          ·
            refine L_gyes rfl rfl ?_
            refine L_y (y_move rfl) rfl ?_
            refine L_gyes rfl rfl ?_
            refine L_y (y_move rfl) rfl ?_
            refine L_gyes rfl rfl ?_
            refine L_y (y_eql rfl rfl) rfl ?_
            refine L_y ((by first | exact y_pickT rfl rfl | exact y_pickF rfl rfl)) rfl ?_
            refine L_y (y_move rfl) rfl ?_
            refine L_split 95 rfl (fun h95 => ?_) (fun h95 => ?_)
            ·
              refine L_gyes rfl rfl ?_
              refine L_y (y_move rfl) rfl ?_
              refine L_gyes rfl rfl ?_
              refine L_y (y_len Try.underlying25 rfl) rfl ?_
              refine L_gyes rfl rfl ?_
              refine L_y (y_eql rfl rfl) rfl ?_
              refine L_y ((by first | exact y_pickT rfl rfl | exact y_pickF rfl rfl)) rfl ?_
              refine L_y (y_move rfl) rfl ?_
              refine L_split 100 rfl (fun h100 => ?_) (fun h100 => ?_)
              ·
                refine L_gyes rfl rfl ?_
                refine L_o (o_call Try.func8 rfl rfl (works w17) rfl rfl ?_)
                rintro e23 w23 ⟨v23, rfl, l23, rfl⟩
                refine ⟨_, rfl, ?_⟩
                have S23 := S17.like l23
                refine L_y ((by first | exact y_pickT rfl rfl | exact y_pickF rfl rfl)) rfl ?_
                refine L_y (y_assign rfl) rfl ?_
                refine L_nil ?_
                refine hK16 _ _ ?_
                refine T_ret ?_
                repeat (first | with_reducible refine up_then ?_ | with_reducible refine up_in ?_)
                refine ret1 rfl rfl ?_
                exact ⟨_, rfl, S23.like0, rfl⟩
              ·
                exact absurd rfl h100
            ·
              exact absurd rfl h95
          ·
            exact absurd rfl h90
        ·
          exact absurd rfl h85
      ·
        refine L_gyes rfl rfl ?_
        refine L_y (y_move rfl) rfl ?_
        refine L_gyes rfl rfl ?_
        refine L_y (y_len Try.underlying22 rfl) rfl ?_
        refine L_gyes rfl rfl ?_
        refine L_y (y_gtr rfl rfl) rfl ?_
        refine L_y ((by first | exact y_pickT rfl rfl | exact y_pickF rfl rfl)) rfl ?_
        refine L_nil ?_
        refine hK15 _ _ ?_
        refine T_cond rfl (fun h82 => ?_) (fun h82 => ?_)
        ·
          refine T_seq fun K17 hK17 => ?_
          refine T_region ?_
          refine L_y (y_move rfl) rfl ?_
          refine L_y (y_eql rfl rfl) rfl ?_
          refine L_y (y_move rfl) rfl ?_
          refine L_split 85 rfl (fun h85 => ?_) (fun h85 => ?_)
          ·
            refine L_gyes rfl rfl ?_
            refine L_y (y_move rfl) rfl ?_
            refine L_gyes rfl rfl ?_
            refine L_y (y_move rfl) rfl ?_
            refine L_gyes rfl rfl ?_
            refine L_y (y_eql rfl rfl) rfl ?_
            refine L_y ((by first | exact y_pickT rfl rfl | exact y_pickF rfl rfl)) rfl ?_
            refine L_y (y_move rfl) rfl ?_
            refine L_split 90 rfl (fun h90 => ?_) (fun h90 => ?_)
            ·
              refine L_gyes rfl rfl ?_
              refine L_y (y_move rfl) rfl ?_
              refine L_gyes rfl rfl ?_
              refine L_y (y_move rfl) rfl ?_
              refine L_gyes rfl rfl ?_
              refine L_y (y_eql rfl rfl) rfl ?_
              refine L_y ((by first | exact y_pickT rfl rfl | exact y_pickF rfl rfl)) rfl ?_
              refine L_y (y_move rfl) rfl ?_
              refine L_split 95 rfl (fun h95 => ?_) (fun h95 => ?_)
              ·
                refine L_gyes rfl rfl ?_
                refine L_y (y_move rfl) rfl ?_
                refine L_gyes rfl rfl ?_
                refine L_y (y_len Try.underlying25 rfl) rfl ?_
                refine L_gyes rfl rfl ?_
                refine L_y (y_eql rfl rfl) rfl ?_
                refine L_y ((by first | exact y_pickT rfl rfl | exact y_pickF rfl rfl)) rfl ?_
                refine L_y (y_move rfl) rfl ?_
                refine L_split 100 rfl (fun h100 => ?_) (fun h100 => ?_)
                ·
                  refine L_gyes rfl rfl ?_
                  refine L_o (o_call Try.func8 rfl rfl (works w17) rfl rfl ?_)
                  rintro e28 w28 ⟨v28, rfl, l28, rfl⟩
                  refine ⟨_, rfl, ?_⟩
                  have S28 := S17.like l28
                  refine L_y ((by first | exact y_pickT rfl rfl | exact y_pickF rfl rfl)) rfl ?_
                  refine L_y (y_assign rfl) rfl ?_
                  refine L_nil ?_
                  refine hK17 _ _ ?_
                  refine T_ret ?_
                  repeat (first | with_reducible refine up_then ?_ | with_reducible refine up_in ?_)
                  refine ret1 rfl rfl ?_
                  exact ⟨_, rfl, S28.like0, rfl⟩
                ·
                  exact absurd rfl h100
              ·
                exact absurd rfl h95
            ·
              exact absurd rfl h90
          ·
            exact absurd rfl h85
        ·
          exact absurd h82 (by omega)


theorem u16_wf {v : Int} (h : (Lit.int .u16 v).wf = true) : 0 ≤ v ∧ v < 65536 := by
  simp only [Lit.wf, IntKind.min, IntKind.max, IntKind.bits, IntKind.signed, Bool.and_eq_true, decide_eq_true_eq] at h
  simp at h
  omega
theorem blocks_law (A B : Option Addr) (n ca m cb : Nat) (la lb : List Int) (v : Int) (w0 : World) (ha : Rs w0 1 A n ca (iL la)) (hb : Rs w0 1 B m cb (iL lb)) (hv : 0 ≤ v ∧ v < 65536) :
    Calls Try.prog 6 #[.slice A n ca, .slice B m cb, .int .u16 v] w0 fun e w' => e = .returned (.bool true) ∧ Below w0.heap.size w0 w' := by
  by_cases h : 800 < v % 1000 + n ∨ 800 < v % 1000 + m
  · exact (blocksL A B n ca m cb la lb v w0 ha hb hv h).mono fun e w' ⟨u, h1, h2, h3⟩ => by subst h3; exact ⟨h1, h2⟩
  · exact (blocksS A B n ca m cb la lb v w0 ha hb hv (by omega) (by omega)).mono fun e w' ⟨u, h1, h2, h3⟩ => by subst h3; exact ⟨h1, h2⟩
end Go.Proofs.Ytgapdndbelnknaa
