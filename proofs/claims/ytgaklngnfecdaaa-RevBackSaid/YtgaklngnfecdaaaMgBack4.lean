import Derived.Test.YtgaklngnfecdaaaMgBack3

/-
  The law RevBack.
-/
namespace Go.Proofs.Ytgaklngnfecdaaa.Rev
open Go.RowKit Zk Zx
open Oid (idf hexL idf_len readR)
open Tre (nmOk)
set_option linter.unusedVariables false
set_option linter.unusedSimpArgs false

theorem sameB_refl (x : Cm) : sameB x x = true := by simp [sameB]
theorem revB_len {x : Cm} (hn : x.n = x.ps.length) (h : chk x = 0) : (revB x).length ≤ 2000 := by
  obtain ⟨c1, c2, c3, c4, c5, c6⟩ := chk_ok h
  have h1 := nm_len c4
  have h2 : (digS x.tm).length ≤ 19 := digS_len (by omega)
  have h3 : x.tx.data.toList.length = x.tx.size := by simp
  unfold revB
  simp only [List.length_append, lineL_len, hexI_len, parL_len, List.length_cons, List.length_nil]
  have w1 : wTree.length = 4 := rfl
  have w2 : wAuthor.length = 6 := rfl
  have w3 : wTime.length = 4 := rfl
  omega
theorem back1 {x : Cm} (hn : x.n = x.ps.length) (h : chk x = 0) : gcode (revB x) = 0 ∧ ∀ A c, sameB (cmOf (gval (revB x)) A (gval (revB x)).ps.length c) x = true := by
  have hg := getR_of hn h
  obtain ⟨c1, c2, c3, c4, c5, c6⟩ := chk_ok h
  have hgo := go_some hg
  have e : chk (cmO ⟨x.tr, x.ps, x.au.data.toList, x.tm.toNat, x.tx.data.toList⟩) = chk x := by
    unfold cmO cmOf chk
    simp only [Int.toNat_of_nonneg c5, hn]
  rw [e, h] at hgo
  refine ⟨hgo.1, fun A c => ?_⟩
  have hv := hgo.2.trans (if_pos rfl)
  rw [hv]
  simp [sameB, cmOf, Int.toNat_of_nonneg c5]
theorem back2 {s : List UInt8} (h : gcode s = 0) : chk (cmO (gval s)) = 0 ∧ revB (cmO (gval s)) = s := by
  unfold gcode at h
  unfold gval
  cases e : getR s with
  | none => rw [e] at h; cases h
  | some y =>
    rw [e] at h
    have h2 : chk (cmO y) = 0 := h
    show chk (cmO (if chk (cmO y) = 0 then y else zL)) = 0 ∧ revB (cmO (if chk (cmO y) = 0 then y else zL)) = s
    rw [if_pos h2]
    exact ⟨h2, getR_is e⟩


set_option maxRecDepth 100000 in
theorem back (x y : Cm) (B : Option Addr) (m d : Nat) (s : List UInt8) (w0 : World) (hx : Rs w0 32 x.A x.n x.c (x.ps.flatMap idf)) (hy : Rs w0 32 y.A y.n y.c (y.ps.flatMap idf)) (hb : Rs w0 1 B m d (bL s)) :
    Calls Try.prog 8 #[.agg (cmf x).toArray, .agg (cmf y).toArray, .slice B m d] w0 fun e w' => ∃ u, e = .returned u ∧ Like w0 w' ∧ u = .bool true := by
  refine enter1 (env := [(0, .agg (cmf x).toArray), (1, .agg (cmf y).toArray), (2, .slice B m d)]) [.agg (cmf x).toArray, .agg (cmf y).toArray, .slice B m d] Try.func8 rfl Try.ntmps8 rfl rfl ?_
  have hxn := Oid.ids_n hx; have hm := hb.lenb; have hcap := hb.cap; have hmax := hb.max
  have S0 := St.start w0 noM
  refine T_seq fun K1 hK1 => ?_
  refine T_region ?_
  refine L_o (o_box rfl S0 rfl fun b1 w1 hb1 S1 => ?_)
  refine L_o (o_box rfl S1 rfl fun b2 w2 hb2 S2 => ?_)
  refine L_y (y_assign rfl) rfl ?_
  refine L_nil ?_
  refine hK1 _ _ ?_
  refine T_seq fun K2 hK2 => ?_
  refine T_seq fun K3 hK3 => ?_
  refine T_region ?_
  refine L_y (y_move rfl) rfl ?_
  refine L_y (y_len Try.underlying27 rfl) rfl ?_
  refine L_y (y_gtr rfl rfl) rfl ?_
  refine L_nil ?_
  refine hK3 _ _ ?_
  refine T_cond rfl (fun h17 => ?_) (fun h17 => ?_)
  ·
    refine T_seq fun K4 hK4 => ?_
    refine T_region ?_
    refine L_o (o_call Try.func23 rfl rfl (works w2) rfl rfl ?_)
    rintro e3 w3 ⟨v3, rfl, l3, rfl⟩
    refine ⟨_, rfl, ?_⟩
    have S3 := S2.like l3
    refine L_y (y_assign rfl) rfl ?_
    refine L_nil ?_
    refine hK4 _ _ ?_
    refine T_ret ?_
    repeat (first | with_reducible refine up_then ?_ | with_reducible refine up_in ?_)
    refine ret1 rfl rfl ?_
    exact ⟨_, rfl, S3.like0, rfl⟩
  ·
    refine T_skip ?_
    refine hK2 _ _ ?_
    refine T_seq fun K5 hK5 => ?_
    refine T_region ?_
    refine L_y (y_ldW Try.underlying26 rfl sz26 rfl (S2.blk 0 rfl) (cm_whole x)) rfl ?_
    refine L_o (o_call Try.func14 rfl rfl (put x w2 (S2.rd hx)) rfl rfl ?_)
    rintro e4 w4 ⟨v4, rfl, l4, B1, m1, d1, l1, e1, rfl, rfl, hl1, hf4⟩
    refine ⟨_, rfl, ?_⟩
    have S4 := S2.adoptF l4 hf4
    refine L_y (y_move rfl) rfl ?_
    refine L_y (y_extract rfl rfl) rfl ?_
    refine L_y (y_extract rfl rfl) rfl ?_
    refine L_y (y_assign rfl) rfl ?_
    refine L_y (y_assign rfl) rfl ?_
    refine L_nil ?_
    refine hK5 _ _ ?_
    refine T_seq fun K6 hK6 => ?_
    refine T_seq fun K7 hK7 => ?_
    refine T_region ?_
    refine L_y (y_move rfl) rfl ?_
    refine L_y (y_eql rfl rfl) rfl ?_
    refine L_nil ?_
    refine hK7 _ _ ?_
    refine T_cond rfl (fun h25 => ?_) (fun h25 => ?_)
    ·
      rw [if_pos h25] at hl1
      subst hl1
      have hgo := back1 hxn h25
      refine T_seq fun K8 hK8 => ?_
      refine T_region ?_
      refine L_y (y_move rfl) rfl ?_
      refine L_o (o_call Try.func35 rfl rfl (get _ _ _ (revB x) w4 (S4.fix 2 rfl) (revB_len hxn h25)) rfl rfl ?_)
      rintro e5 w5 ⟨v5, rfl, l5, A1, c1, hf5, rfl⟩
      refine ⟨_, rfl, ?_⟩
      have S5 := S4.adoptF l5 hf5
      refine L_y (y_move rfl) rfl ?_
      refine L_y (y_extract rfl rfl) rfl ?_
      refine L_y (y_extract rfl rfl) rfl ?_
      refine L_o (o_alloc zz26 S5 rfl fun b6 w6 hb6 S6 => ?_)
      refine L_o (o_stW S6 4 rfl rfl rfl (by rw [cmf_sz]; exact sz26) (by first | (rw [cmf_sz]; done) | (rw [cmf_sz]; rfl)) (fun u hu => cmf_one _ u (by rw [List.toList_toArray] at hu; exact hu)) fun w7 S7 => ?_)
      refine L_y (y_assign rfl) rfl ?_
      refine L_nil ?_
      refine hK8 _ _ ?_
      refine T_seq fun K9 hK9 => ?_
      refine T_region ?_
      refine L_y (y_move rfl) rfl ?_
      refine L_y (y_neq rfl rfl) rfl ?_
      refine L_y (y_move rfl) rfl ?_
      refine L_split 33 rfl (fun h33 => ?_) (fun h33 => ?_)
      ·
        exact absurd hgo.1 h33
      ·
        refine L_gyes rfl rfl ?_
        refine L_y (y_ldW Try.underlying26 rfl sz26 rfl (S7.blk 4 rfl) (cm_whole _)) rfl ?_
        refine L_gyes rfl rfl ?_
        refine L_y (y_ldW Try.underlying26 rfl sz26 rfl (S7.blk 0 rfl) (cm_whole x)) rfl ?_
        refine L_gyes rfl rfl ?_
        refine L_o (o_call Try.func37 rfl rfl (rsame (cmOf (gval (revB x)) A1 _ c1) x w7 (S7.fix 3 rfl) (S7.rd hx)) rfl rfl ?_)
        rintro e9 w9 ⟨v9, rfl, l9, hu9⟩
        refine ⟨_, rfl, ?_⟩
        have S9 := S7.like l9
        rw [hgo.2] at hu9
        subst hu9
        refine L_gyes rfl rfl ?_
        refine L_y ((by first | exact y_notD rfl | exact y_not rfl)) rfl ?_
        refine L_y ((by first | exact y_pickT rfl rfl | exact y_pickF rfl rfl)) rfl ?_
        refine L_nil ?_
        refine hK9 _ _ ?_
        refine T_condB rfl (fun h38 => ?_) (fun h38 => ?_)
        ·
          cases h38
        ·
          refine T_skip ?_
          refine hK6 _ _ ?_
          refine T_seq fun K10 hK10 => ?_
          refine T_region ?_
          refine L_y (y_move rfl) rfl ?_
          refine L_o (o_call Try.func35 rfl rfl (get _ _ _ s w9 (S9.rd hb) (by omega)) rfl rfl ?_)
          rintro e10 w10 ⟨v10, rfl, l10, A2, c2, hf10, rfl⟩
          refine ⟨_, rfl, ?_⟩
          have S10 := S9.adoptF l10 hf10
          refine L_y (y_move rfl) rfl ?_
          refine L_y (y_extract rfl rfl) rfl ?_
          refine L_y (y_extract rfl rfl) rfl ?_
          refine L_o (o_alloc zz26 S10 rfl fun b11 w11 hb11 S11 => ?_)
          refine L_o (o_stW S11 6 rfl rfl rfl (by rw [cmf_sz]; exact sz26) (by first | (rw [cmf_sz]; done) | (rw [cmf_sz]; rfl)) (fun u hu => cmf_one _ u (by rw [List.toList_toArray] at hu; exact hu)) fun w12 S12 => ?_)
          refine L_y (y_assign rfl) rfl ?_
          refine L_nil ?_
          refine hK10 _ _ ?_
          refine T_seq fun K11 hK11 => ?_
          refine T_seq fun K12 hK12 => ?_
          refine T_region ?_
          refine L_y (y_move rfl) rfl ?_
          refine L_y (y_eql rfl rfl) rfl ?_
          refine L_nil ?_
          refine hK12 _ _ ?_
          refine T_cond rfl (fun h45 => ?_) (fun h45 => ?_)
          ·
            refine T_seq fun K13 hK13 => ?_
            refine T_region ?_
            refine L_y (y_ldW Try.underlying26 rfl sz26 rfl (S12.blk 6 rfl) (cm_whole _)) rfl ?_
            refine L_o (o_call Try.func14 rfl rfl (put (cmOf (gval s) A2 _ c2) w12 (S12.fix 5 rfl)) rfl rfl ?_)
            rintro e13 w13 ⟨v13, rfl, l13, B3, m3, d3, l3, e3, rfl, rfl, hl3, hf13⟩
            refine ⟨_, rfl, ?_⟩
            have S13 := S12.adoptF l13 hf13
            have hb2 := back2 h45
            rw [if_pos (show chk (cmOf (gval s) A2 _ c2) = 0 from hb2.1)] at hl3
            obtain rfl : l3 = s := hl3.trans hb2.2
            refine L_y (y_move rfl) rfl ?_
            refine L_y (y_extract rfl rfl) rfl ?_
            refine L_y (y_extract rfl rfl) rfl ?_
            refine L_y (y_assign rfl) rfl ?_
            refine L_y (y_assign rfl) rfl ?_
            refine L_nil ?_
            refine hK13 _ _ ?_
            refine T_seq fun K14 hK14 => ?_
            refine T_region ?_
            refine L_y (y_move rfl) rfl ?_
            refine L_y (y_neq rfl rfl) rfl ?_
            refine L_y (y_move rfl) rfl ?_
            refine L_split 53 rfl (fun h53 => ?_) (fun h53 => ?_)
            ·
              exact absurd (show chk (cmOf (gval _) A2 _ c2) = 0 from hb2.1) h53
            ·
              refine L_gyes rfl rfl ?_
              refine L_y (y_move rfl) rfl ?_
              refine L_gyes rfl rfl ?_
              refine L_y (y_move rfl) rfl ?_
              refine L_gyes rfl rfl ?_
              refine L_o (o_call Try.func18 rfl rfl (Oct.same _ _ _ _ _ _ _ _ w13 (S13.fix 7 rfl) (S13.rd hb)) rfl rfl ?_)
              rintro e15 w15 ⟨v15, rfl, l15, rfl⟩
              refine ⟨_, rfl, ?_⟩
              have S15 := S13.like l15
              refine L_gyes rfl rfl ?_
              refine L_y ((by first | exact y_notD rfl | exact y_not rfl)) rfl ?_
              refine L_y ((by first | exact y_pickT rfl rfl | exact y_pickF rfl rfl)) rfl ?_
              refine L_nil ?_
              refine hK14 _ _ ?_
              refine T_cond rfl (fun h58 => ?_) (fun h58 => ?_)
              ·
                exact absurd rfl h58
              ·
                refine T_skip ?_
                refine hK11 _ _ ?_
                refine T_seq fun K15 hK15 => ?_
                refine T_drawnL [(0, true), (1, true), (3, true), (4, true), (2, false), (5, false), (6, true), (7, true), (8, true), (9, true), (10, false), (11, true), (12, true), (13, false), (14, true), (15, true)] hmix (by kernel_rfl) fun w16 l16 => ?_
                have S16 := S15.like l16
                refine DL_y rfl (y_ldW Try.underlying26 rfl sz26 rfl (S16.blk 0 rfl) (cm_whole x)) rfl ?_
                refine DL_y rfl (y_ldW Try.underlying26 rfl sz26 rfl (S16.blk 1 rfl) (cm_whole y)) rfl ?_
                refine DL_y rfl (y_ldW Try.underlying26 rfl sz26 rfl (S16.blk 0 rfl) (cm_whole x)) rfl ?_
                refine DL_y rfl (y_ldW Try.underlying26 rfl sz26 rfl (S16.blk 1 rfl) (cm_whole y)) rfl ?_
                refine DL_o rfl (o_call Try.func38 rfl rfl (same x y w16 (S16.rd hx) (S16.rd hy)) rfl rfl ?_)
                rintro e17 w17 ⟨v17, rfl, l17, rfl⟩
                refine ⟨_, rfl, l17, ?_⟩
                have S17 := S16.like l17
                have q17 := l17
                refine DL_o rfl (o_call Try.func37 rfl rfl (rsame x y w17 (S17.rd hx) (S17.rd hy)) rfl rfl ?_)
                rintro e18 w18 ⟨v18, rfl, l18, rfl⟩
                refine ⟨_, rfl, (Like.trans q17 l18), ?_⟩
                have S18 := S17.like l18
                have q18 := (Like.trans q17 l18)
                refine DL_y rfl (Oid.y_beqq rfl rfl rfl) rfl ?_
                refine DL_y rfl (y_move rfl) rfl ?_
                refine DL_splitB 66 rfl (fun h66 => ?_) (fun h66 => ?_)
                ·
                  refine DL_gyes rfl rfl rfl (y_ldW Try.underlying26 rfl sz26 rfl (S16.blk 0 rfl) (cm_whole x)) rfl ?_
                  refine DL_gyes rfl rfl rfl (y_ldW Try.underlying26 rfl sz26 rfl (S16.blk 0 rfl) (cm_whole x)) rfl ?_
                  refine DL_ogyes rfl rfl rfl (o_call Try.func38 rfl rfl (same x x w18 (S18.rd hx) (S18.rd hx)) rfl rfl ?_)
                  rintro e19 w19 ⟨v19, rfl, l19, hu19⟩
                  refine ⟨_, rfl, (Like.trans q18 l19), ?_⟩
                  have S19 := S18.like l19
                  rw [sameB_refl] at hu19
                  subst hu19
                  have q19 := (Like.trans q18 l19)
                  refine DL_y rfl ((by first | exact y_pickT rfl rfl | exact y_pickF rfl rfl)) rfl ?_
                  refine DL_y rfl (y_move rfl) rfl ?_
                  refine DL_splitB 71 rfl (fun h71 => ?_) (fun h71 => ?_)
                  ·
                    refine DL_ogyes rfl rfl rfl (o_call Try.func23 rfl rfl (works w19) rfl rfl ?_)
                    rintro e20 w20 ⟨v20, rfl, l20, rfl⟩
                    refine ⟨_, rfl, (Like.trans q19 l20), ?_⟩
                    have S20 := S19.like l20
                    have q20 := (Like.trans q19 l20)
                    refine DL_y rfl ((by first | exact y_pickT rfl rfl | exact y_pickF rfl rfl)) rfl ?_
                    refine DL_y rfl (y_assign rfl) rfl ?_
                    refine DL_nil ?_
                    refine hK15 _ _ ?_
                    refine T_ret ?_
                    repeat (first | with_reducible refine up_then ?_ | with_reducible refine up_in ?_)
                    refine ret1 rfl rfl ?_
                    exact ⟨_, rfl, S20.like0, rfl⟩
                  ·
                    cases h71
                ·
                  exact absurd h66 (by simp)
          ·
            refine T_skip ?_
            refine hK11 _ _ ?_
            refine T_seq fun K16 hK16 => ?_
            refine T_drawnL [(0, true), (1, true), (3, true), (4, true), (2, false), (5, false), (6, true), (7, true), (8, true), (9, true), (10, false), (11, true), (12, true), (13, false), (14, true), (15, true)] hmix (by kernel_rfl) fun w21 l21 => ?_
            have S21 := S12.like l21
            refine DL_y rfl (y_ldW Try.underlying26 rfl sz26 rfl (S21.blk 0 rfl) (cm_whole x)) rfl ?_
            refine DL_y rfl (y_ldW Try.underlying26 rfl sz26 rfl (S21.blk 1 rfl) (cm_whole y)) rfl ?_
            refine DL_y rfl (y_ldW Try.underlying26 rfl sz26 rfl (S21.blk 0 rfl) (cm_whole x)) rfl ?_
            refine DL_y rfl (y_ldW Try.underlying26 rfl sz26 rfl (S21.blk 1 rfl) (cm_whole y)) rfl ?_
            refine DL_o rfl (o_call Try.func38 rfl rfl (same x y w21 (S21.rd hx) (S21.rd hy)) rfl rfl ?_)
            rintro e22 w22 ⟨v22, rfl, l22, rfl⟩
            refine ⟨_, rfl, l22, ?_⟩
            have S22 := S21.like l22
            have q22 := l22
            refine DL_o rfl (o_call Try.func37 rfl rfl (rsame x y w22 (S22.rd hx) (S22.rd hy)) rfl rfl ?_)
            rintro e23 w23 ⟨v23, rfl, l23, rfl⟩
            refine ⟨_, rfl, (Like.trans q22 l23), ?_⟩
            have S23 := S22.like l23
            have q23 := (Like.trans q22 l23)
            refine DL_y rfl (Oid.y_beqq rfl rfl rfl) rfl ?_
            refine DL_y rfl (y_move rfl) rfl ?_
            refine DL_splitB 66 rfl (fun h66 => ?_) (fun h66 => ?_)
            ·
              refine DL_gyes rfl rfl rfl (y_ldW Try.underlying26 rfl sz26 rfl (S21.blk 0 rfl) (cm_whole x)) rfl ?_
              refine DL_gyes rfl rfl rfl (y_ldW Try.underlying26 rfl sz26 rfl (S21.blk 0 rfl) (cm_whole x)) rfl ?_
              refine DL_ogyes rfl rfl rfl (o_call Try.func38 rfl rfl (same x x w23 (S23.rd hx) (S23.rd hx)) rfl rfl ?_)
              rintro e24 w24 ⟨v24, rfl, l24, hu24⟩
              refine ⟨_, rfl, (Like.trans q23 l24), ?_⟩
              have S24 := S23.like l24
              rw [sameB_refl] at hu24
              subst hu24
              have q24 := (Like.trans q23 l24)
              refine DL_y rfl ((by first | exact y_pickT rfl rfl | exact y_pickF rfl rfl)) rfl ?_
              refine DL_y rfl (y_move rfl) rfl ?_
              refine DL_splitB 71 rfl (fun h71 => ?_) (fun h71 => ?_)
              ·
                refine DL_ogyes rfl rfl rfl (o_call Try.func23 rfl rfl (works w24) rfl rfl ?_)
                rintro e25 w25 ⟨v25, rfl, l25, rfl⟩
                refine ⟨_, rfl, (Like.trans q24 l25), ?_⟩
                have S25 := S24.like l25
                have q25 := (Like.trans q24 l25)
                refine DL_y rfl ((by first | exact y_pickT rfl rfl | exact y_pickF rfl rfl)) rfl ?_
                refine DL_y rfl (y_assign rfl) rfl ?_
                refine DL_nil ?_
                refine hK16 _ _ ?_
                refine T_ret ?_
                repeat (first | with_reducible refine up_then ?_ | with_reducible refine up_in ?_)
                refine ret1 rfl rfl ?_
                exact ⟨_, rfl, S25.like0, rfl⟩
              ·
                cases h71
            ·
              exact absurd h66 (by simp)
    ·
      refine T_skip ?_
      refine hK6 _ _ ?_
      refine T_seq fun K17 hK17 => ?_
      refine T_region ?_
      refine L_y (y_move rfl) rfl ?_
      refine L_o (o_call Try.func35 rfl rfl (get _ _ _ s w4 (S4.rd hb) (by omega)) rfl rfl ?_)
      rintro e26 w26 ⟨v26, rfl, l26, A2, c2, hf26, rfl⟩
      refine ⟨_, rfl, ?_⟩
      have S26 := S4.adoptF l26 hf26
      refine L_y (y_move rfl) rfl ?_
      refine L_y (y_extract rfl rfl) rfl ?_
      refine L_y (y_extract rfl rfl) rfl ?_
      refine L_o (o_alloc zz26 S26 rfl fun b27 w27 hb27 S27 => ?_)
      refine L_o (o_stW S27 4 rfl rfl rfl (by rw [cmf_sz]; exact sz26) (by first | (rw [cmf_sz]; done) | (rw [cmf_sz]; rfl)) (fun u hu => cmf_one _ u (by rw [List.toList_toArray] at hu; exact hu)) fun w28 S28 => ?_)
      refine L_y (y_assign rfl) rfl ?_
      refine L_nil ?_
      refine hK17 _ _ ?_
      refine T_seq fun K18 hK18 => ?_
      refine T_seq fun K19 hK19 => ?_
      refine T_region ?_
      refine L_y (y_move rfl) rfl ?_
      refine L_y (y_eql rfl rfl) rfl ?_
      refine L_nil ?_
      refine hK19 _ _ ?_
      refine T_cond rfl (fun h45 => ?_) (fun h45 => ?_)
      ·
        refine T_seq fun K20 hK20 => ?_
        refine T_region ?_
        refine L_y (y_ldW Try.underlying26 rfl sz26 rfl (S28.blk 4 rfl) (cm_whole _)) rfl ?_
        refine L_o (o_call Try.func14 rfl rfl (put (cmOf (gval s) A2 _ c2) w28 (S28.fix 3 rfl)) rfl rfl ?_)
        rintro e29 w29 ⟨v29, rfl, l29, B3, m3, d3, l3, e3, rfl, rfl, hl3, hf29⟩
        refine ⟨_, rfl, ?_⟩
        have S29 := S28.adoptF l29 hf29
        have hb2 := back2 h45
        rw [if_pos (show chk (cmOf (gval s) A2 _ c2) = 0 from hb2.1)] at hl3
        obtain rfl : l3 = s := hl3.trans hb2.2
        refine L_y (y_move rfl) rfl ?_
        refine L_y (y_extract rfl rfl) rfl ?_
        refine L_y (y_extract rfl rfl) rfl ?_
        refine L_y (y_assign rfl) rfl ?_
        refine L_y (y_assign rfl) rfl ?_
        refine L_nil ?_
        refine hK20 _ _ ?_
        refine T_seq fun K21 hK21 => ?_
        refine T_region ?_
        refine L_y (y_move rfl) rfl ?_
        refine L_y (y_neq rfl rfl) rfl ?_
        refine L_y (y_move rfl) rfl ?_
        refine L_split 53 rfl (fun h53 => ?_) (fun h53 => ?_)
        ·
          exact absurd (show chk (cmOf (gval _) A2 _ c2) = 0 from hb2.1) h53
        ·
          refine L_gyes rfl rfl ?_
          refine L_y (y_move rfl) rfl ?_
          refine L_gyes rfl rfl ?_
          refine L_y (y_move rfl) rfl ?_
          refine L_gyes rfl rfl ?_
          refine L_o (o_call Try.func18 rfl rfl (Oct.same _ _ _ _ _ _ _ _ w29 (S29.fix 5 rfl) (S29.rd hb)) rfl rfl ?_)
          rintro e31 w31 ⟨v31, rfl, l31, rfl⟩
          refine ⟨_, rfl, ?_⟩
          have S31 := S29.like l31
          refine L_gyes rfl rfl ?_
          refine L_y ((by first | exact y_notD rfl | exact y_not rfl)) rfl ?_
          refine L_y ((by first | exact y_pickT rfl rfl | exact y_pickF rfl rfl)) rfl ?_
          refine L_nil ?_
          refine hK21 _ _ ?_
          refine T_cond rfl (fun h58 => ?_) (fun h58 => ?_)
          ·
            exact absurd rfl h58
          ·
            refine T_skip ?_
            refine hK18 _ _ ?_
            refine T_seq fun K22 hK22 => ?_
            refine T_drawnL [(0, true), (1, true), (3, true), (4, true), (2, false), (5, false), (6, true), (7, true), (8, true), (9, true), (10, false), (11, true), (12, true), (13, false), (14, true), (15, true)] hmix (by kernel_rfl) fun w32 l32 => ?_
            have S32 := S31.like l32
            refine DL_y rfl (y_ldW Try.underlying26 rfl sz26 rfl (S32.blk 0 rfl) (cm_whole x)) rfl ?_
            refine DL_y rfl (y_ldW Try.underlying26 rfl sz26 rfl (S32.blk 1 rfl) (cm_whole y)) rfl ?_
            refine DL_y rfl (y_ldW Try.underlying26 rfl sz26 rfl (S32.blk 0 rfl) (cm_whole x)) rfl ?_
            refine DL_y rfl (y_ldW Try.underlying26 rfl sz26 rfl (S32.blk 1 rfl) (cm_whole y)) rfl ?_
            refine DL_o rfl (o_call Try.func38 rfl rfl (same x y w32 (S32.rd hx) (S32.rd hy)) rfl rfl ?_)
            rintro e33 w33 ⟨v33, rfl, l33, rfl⟩
            refine ⟨_, rfl, l33, ?_⟩
            have S33 := S32.like l33
            have q33 := l33
            refine DL_o rfl (o_call Try.func37 rfl rfl (rsame x y w33 (S33.rd hx) (S33.rd hy)) rfl rfl ?_)
            rintro e34 w34 ⟨v34, rfl, l34, rfl⟩
            refine ⟨_, rfl, (Like.trans q33 l34), ?_⟩
            have S34 := S33.like l34
            have q34 := (Like.trans q33 l34)
            refine DL_y rfl (Oid.y_beqq rfl rfl rfl) rfl ?_
            refine DL_y rfl (y_move rfl) rfl ?_
            refine DL_splitB 66 rfl (fun h66 => ?_) (fun h66 => ?_)
            ·
              refine DL_gyes rfl rfl rfl (y_ldW Try.underlying26 rfl sz26 rfl (S32.blk 0 rfl) (cm_whole x)) rfl ?_
              refine DL_gyes rfl rfl rfl (y_ldW Try.underlying26 rfl sz26 rfl (S32.blk 0 rfl) (cm_whole x)) rfl ?_
              refine DL_ogyes rfl rfl rfl (o_call Try.func38 rfl rfl (same x x w34 (S34.rd hx) (S34.rd hx)) rfl rfl ?_)
              rintro e35 w35 ⟨v35, rfl, l35, hu35⟩
              refine ⟨_, rfl, (Like.trans q34 l35), ?_⟩
              have S35 := S34.like l35
              rw [sameB_refl] at hu35
              subst hu35
              have q35 := (Like.trans q34 l35)
              refine DL_y rfl ((by first | exact y_pickT rfl rfl | exact y_pickF rfl rfl)) rfl ?_
              refine DL_y rfl (y_move rfl) rfl ?_
              refine DL_splitB 71 rfl (fun h71 => ?_) (fun h71 => ?_)
              ·
                refine DL_ogyes rfl rfl rfl (o_call Try.func23 rfl rfl (works w35) rfl rfl ?_)
                rintro e36 w36 ⟨v36, rfl, l36, rfl⟩
                refine ⟨_, rfl, (Like.trans q35 l36), ?_⟩
                have S36 := S35.like l36
                have q36 := (Like.trans q35 l36)
                refine DL_y rfl ((by first | exact y_pickT rfl rfl | exact y_pickF rfl rfl)) rfl ?_
                refine DL_y rfl (y_assign rfl) rfl ?_
                refine DL_nil ?_
                refine hK22 _ _ ?_
                refine T_ret ?_
                repeat (first | with_reducible refine up_then ?_ | with_reducible refine up_in ?_)
                refine ret1 rfl rfl ?_
                exact ⟨_, rfl, S36.like0, rfl⟩
              ·
                cases h71
            ·
              exact absurd h66 (by simp)
      ·
        refine T_skip ?_
        refine hK18 _ _ ?_
        refine T_seq fun K23 hK23 => ?_
        refine T_drawnL [(0, true), (1, true), (3, true), (4, true), (2, false), (5, false), (6, true), (7, true), (8, true), (9, true), (10, false), (11, true), (12, true), (13, false), (14, true), (15, true)] hmix (by kernel_rfl) fun w37 l37 => ?_
        have S37 := S28.like l37
        refine DL_y rfl (y_ldW Try.underlying26 rfl sz26 rfl (S37.blk 0 rfl) (cm_whole x)) rfl ?_
        refine DL_y rfl (y_ldW Try.underlying26 rfl sz26 rfl (S37.blk 1 rfl) (cm_whole y)) rfl ?_
        refine DL_y rfl (y_ldW Try.underlying26 rfl sz26 rfl (S37.blk 0 rfl) (cm_whole x)) rfl ?_
        refine DL_y rfl (y_ldW Try.underlying26 rfl sz26 rfl (S37.blk 1 rfl) (cm_whole y)) rfl ?_
        refine DL_o rfl (o_call Try.func38 rfl rfl (same x y w37 (S37.rd hx) (S37.rd hy)) rfl rfl ?_)
        rintro e38 w38 ⟨v38, rfl, l38, rfl⟩
        refine ⟨_, rfl, l38, ?_⟩
        have S38 := S37.like l38
        have q38 := l38
        refine DL_o rfl (o_call Try.func37 rfl rfl (rsame x y w38 (S38.rd hx) (S38.rd hy)) rfl rfl ?_)
        rintro e39 w39 ⟨v39, rfl, l39, rfl⟩
        refine ⟨_, rfl, (Like.trans q38 l39), ?_⟩
        have S39 := S38.like l39
        have q39 := (Like.trans q38 l39)
        refine DL_y rfl (Oid.y_beqq rfl rfl rfl) rfl ?_
        refine DL_y rfl (y_move rfl) rfl ?_
        refine DL_splitB 66 rfl (fun h66 => ?_) (fun h66 => ?_)
        ·
          refine DL_gyes rfl rfl rfl (y_ldW Try.underlying26 rfl sz26 rfl (S37.blk 0 rfl) (cm_whole x)) rfl ?_
          refine DL_gyes rfl rfl rfl (y_ldW Try.underlying26 rfl sz26 rfl (S37.blk 0 rfl) (cm_whole x)) rfl ?_
          refine DL_ogyes rfl rfl rfl (o_call Try.func38 rfl rfl (same x x w39 (S39.rd hx) (S39.rd hx)) rfl rfl ?_)
          rintro e40 w40 ⟨v40, rfl, l40, hu40⟩
          refine ⟨_, rfl, (Like.trans q39 l40), ?_⟩
          have S40 := S39.like l40
          rw [sameB_refl] at hu40
          subst hu40
          have q40 := (Like.trans q39 l40)
          refine DL_y rfl ((by first | exact y_pickT rfl rfl | exact y_pickF rfl rfl)) rfl ?_
          refine DL_y rfl (y_move rfl) rfl ?_
          refine DL_splitB 71 rfl (fun h71 => ?_) (fun h71 => ?_)
          ·
            refine DL_ogyes rfl rfl rfl (o_call Try.func23 rfl rfl (works w40) rfl rfl ?_)
            rintro e41 w41 ⟨v41, rfl, l41, rfl⟩
            refine ⟨_, rfl, (Like.trans q40 l41), ?_⟩
            have S41 := S40.like l41
            have q41 := (Like.trans q40 l41)
            refine DL_y rfl ((by first | exact y_pickT rfl rfl | exact y_pickF rfl rfl)) rfl ?_
            refine DL_y rfl (y_assign rfl) rfl ?_
            refine DL_nil ?_
            refine hK23 _ _ ?_
            refine T_ret ?_
            repeat (first | with_reducible refine up_then ?_ | with_reducible refine up_in ?_)
            refine ret1 rfl rfl ?_
            exact ⟨_, rfl, S41.like0, rfl⟩
          ·
            cases h71
        ·
          exact absurd h66 (by simp)


theorem back_law (x y : Cm) (B : Option Addr) (m d : Nat) (s : List UInt8) (w0 : World) (hx : Rs w0 32 x.A x.n x.c (x.ps.flatMap idf)) (hy : Rs w0 32 y.A y.n y.c (y.ps.flatMap idf)) (hb : Rs w0 1 B m d (bL s)) :
    Calls Try.prog 8 #[.agg (cmf x).toArray, .agg (cmf y).toArray, .slice B m d] w0 fun e w' => e = .returned (.bool true) ∧ Below w0.heap.size w0 w' :=
  (back x y B m d s w0 hx hy hb).mono fun e w' ⟨u, h1, h2, h3⟩ => by subst h3; exact ⟨h1, h2⟩
end Go.Proofs.Ytgaklngnfecdaaa.Rev
