/-
  The law DeltaThen.
-/
import Derived.Test.YtpcgldkllnkaeaaS
namespace Go.Proofs.Ytpcgldkllnkaeaa
open Go.RowKit Zk Zx
set_option linter.unusedVariables false
set_option linter.unusedSimpArgs false

set_option maxRecDepth 100000 in
theorem lthen (A : Option Addr) (n c : Nat) (l : List OP) (b t : Int) (B : Option Addr) (m d : Nat) (k : List OP) (b' t' : Int) (w0 : World) (hl : Rs w0 4 A n c (l.flatMap opf)) (hok : OkO w0 l) (hk : Rs w0 4 B m d (k.flatMap opf)) (hok2 : OkO w0 k) :
    Calls Try.prog 4 #[.agg (scA b t A n c), .agg (scA b' t' B m d)] w0 fun e w' => ∃ u, e = .returned u ∧ Like w0 w' ∧ u = .bool true := by
  refine enter1 (env := [(0, .agg (scA b t A n c)), (1, .agg (scA b' t' B m d))]) [.agg (scA b t A n c), .agg (scA b' t' B m d)] Try.func4 rfl Try.ntmps4 rfl rfl ?_
  have hn := ops_n hl; have hcap := hl.cap; have hmax := hl.max; have S0 := St.start w0 noM; have hm := ops_n hk; have hcap2 := hk.cap; have hmax2 := hk.max
  refine T_seq fun K1 hK1 => ?_
  refine T_region ?_
  refine L_o (o_box rfl S0 rfl fun b1 w1 hb1 S1 => ?_)
  refine L_o (o_box rfl S1 rfl fun b2 w2 hb2 S2 => ?_)
  refine L_y (y_assign rfl) rfl ?_
  refine L_nil ?_
  refine hK1 _ _ ?_
  refine T_seq fun K2 hK2 => ?_
  refine T_seq fun K3 hK3 => ?_
  refine T_region ?_
  refine L_y (y_fieldA 2 Try.underlying25 rfl sz23 rfl rfl rfl) rfl ?_
  refine L_y (y_ldc Try.underlying23 rfl rfl (((S2.blk 0 rfl).cell _).trans (by rfl))) rfl ?_
  refine L_y (y_len Try.underlying23 rfl) rfl ?_
  refine L_y (y_gtr rfl rfl) rfl ?_
  refine L_y (y_move rfl) rfl ?_
  refine L_split 13 rfl (fun h13 => ?_) (fun h13 => ?_)
  ·
    refine L_gno rfl rfl rfl ?_
    refine L_gno rfl rfl rfl ?_
    refine L_gno rfl rfl rfl ?_
    refine L_gno rfl rfl rfl ?_
    refine L_y ((by first | exact y_pickT rfl rfl | exact y_pickF rfl rfl)) rfl ?_
    refine L_nil ?_
    refine hK3 _ _ ?_
    refine T_true rfl ?_
    refine T_seq fun K4 hK4 => ?_
    refine T_region ?_
    refine L_o (o_call Try.func9 rfl rfl (works w2) rfl rfl ?_)
    rintro e4 w4 ⟨v4, rfl, l4, rfl⟩
    refine ⟨_, rfl, ?_⟩
    have S4 := S2.like l4
    refine L_y (y_assign rfl) rfl ?_
    refine L_nil ?_
    refine hK4 _ _ ?_
    refine T_ret ?_
    repeat (first | with_reducible refine up_then ?_ | with_reducible refine up_in ?_)
    refine ret1 rfl rfl ?_
    first | exact ⟨_, rfl, S4.like0, rfl⟩ | exact ⟨_, rfl, Like.trans lkw S4.like0, rfl⟩
  ·
    refine L_gyes rfl rfl ?_
    refine L_y (y_fieldA 2 Try.underlying25 rfl sz23 rfl rfl rfl) rfl ?_
    refine L_gyes rfl rfl ?_
    refine L_y (y_ldc Try.underlying23 rfl rfl (((S2.blk 1 rfl).cell _).trans (by rfl))) rfl ?_
    refine L_gyes rfl rfl ?_
    refine L_y (y_len Try.underlying23 rfl) rfl ?_
    refine L_gyes rfl rfl ?_
    refine L_y (y_gtr rfl rfl) rfl ?_
    refine L_y ((by first | exact y_pickT rfl rfl | exact y_pickF rfl rfl)) rfl ?_
    refine L_nil ?_
    refine hK3 _ _ ?_
    refine T_cond rfl (fun h18 => ?_) (fun h18 => ?_)
    ·
      refine T_seq fun K5 hK5 => ?_
      refine T_region ?_
      refine L_o (o_call Try.func9 rfl rfl (works w2) rfl rfl ?_)
      rintro e5 w5 ⟨v5, rfl, l5, rfl⟩
      refine ⟨_, rfl, ?_⟩
      have S5 := S2.like l5
      refine L_y (y_assign rfl) rfl ?_
      refine L_nil ?_
      refine hK5 _ _ ?_
      refine T_ret ?_
      repeat (first | with_reducible refine up_then ?_ | with_reducible refine up_in ?_)
      refine ret1 rfl rfl ?_
      first | exact ⟨_, rfl, S5.like0, rfl⟩ | exact ⟨_, rfl, Like.trans lkw S5.like0, rfl⟩
    ·
      refine T_skip ?_
      refine hK2 _ _ ?_
      refine T_seq fun K6 hK6 => ?_
      refine T_region ?_
      refine L_y (y_ldW Try.underlying25 rfl sz25 rfl (S2.blk 0 rfl) (show _ = (scA b t A n c).toList ∧ _ from ⟨rfl, rfl⟩)) rfl ?_
      refine L_y (y_ldW Try.underlying25 rfl sz25 rfl (S2.blk 1 rfl) (show _ = (scA b' t' B m d).toList ∧ _ from ⟨rfl, rfl⟩)) rfl ?_
      refine L_o (o_call Try.func16 rfl rfl (pthen A n c l b t B m d k b' t' w2 (S2.rd hl) (hok.like S2.like0) (S2.rd hk) (hok2.like S2.like0) (by omega) (by omega)) rfl rfl ?_)
      rintro e6 w6 ⟨v6, rfl, l6, A23, c23, qs, rfl, hQ, hokQ, hqv⟩
      refine ⟨_, rfl, ?_⟩
      have S6 := S2.like l6
      have lk := S6.like0
      have hl2 := hl.like lk
      have hok3 := hok.like lk
      have hk2 := hk.like lk
      have hok4 := hok2.like lk
      have hb1x := S6.blk 0 rfl
      have hb2x := S6.blk 1 rfl
      have lkw := lk
      have S90 := St.start w6 noM
      refine L_y (y_move rfl) rfl ?_
      refine L_y (y_extract rfl rfl) rfl ?_
      refine L_y (y_extract rfl rfl) rfl ?_
      refine L_o (o_alloc zz25 S90 rfl fun b7 w7 hb7 S7 => ?_)
      refine L_o (o_stW S7 0 rfl rfl rfl sz25 rfl (scA_one _ _ _ _ _) fun w8 S8 => ?_)
      refine L_y (y_assign rfl) rfl ?_
      refine L_nil ?_
      refine hK6 _ _ ?_
      refine T_seq fun K7 hK7 => ?_
      refine T_drawnX (fun w => Blk w b1 25 (scA b t A n c) ∧ Blk w b2 25 (scA b' t' B m d)) hmix (by kernel_rfl) (fun w l => ⟨(S8.like l).rdB hb1x, (S8.like l).rdB hb2x⟩) fun w9 l9 => ?_
      have S9 := S8.like l9
      refine DX_y 0 (by kernel_rfl) rfl (y_of fun w hw => y_ldW Try.underlying25 rfl sz25 rfl (hw.1) (show _ = (scA b t A n c).toList ∧ _ from ⟨rfl, rfl⟩)) rfl ?_
      refine DX_y 2 (by kernel_rfl) rfl (y_of fun w hw => y_ldW Try.underlying25 rfl sz25 rfl (hw.2) (show _ = (scA b' t' B m d).toList ∧ _ from ⟨rfl, rfl⟩)) rfl ?_
      refine DX_o2 1 8 (by kernel_rfl) rfl rfl ?_ ?_
      ·
        refine o_call Try.func11 rfl rfl (plain A n c l b t w9 (S9.rd hl2) (hok3.like S9.like0) (by omega)) rfl rfl ?_
        rintro e10 w10 ⟨v10, rfl, l10, A28, c28, rfl, O10⟩
        refine ⟨_, rfl, ?_⟩
        have S10 := S9.adopt l10 O10
        refine ⟨⟨S10.rdB hb1x, S10.rdB hb2x⟩, ?_⟩
        refine DX_o2 3 8 (by kernel_rfl) rfl rfl ?_ ?_
        ·
          refine o_call Try.func11 rfl rfl (plain B m d k b' t' w10 (S10.rd hk2) (hok4.like S10.like0) (by omega)) rfl rfl ?_
          rintro e11 w11 ⟨v11, rfl, l11, A30, c30, rfl, O11⟩
          refine ⟨_, rfl, ?_⟩
          have S11 := S10.adopt l11 O11
          refine ⟨⟨S11.rdB hb1x, S11.rdB hb2x⟩, ?_⟩
          refine DX_o2 4 8 (by kernel_rfl) rfl rfl ?_ ?_
          ·
            refine o_call Try.func17 rfl rfl (rthen A28 n c28 l b t A30 m c30 k b' t' w6 w11 (S11.row 1 rfl) (hok3.like S11.like0) (S11.row 2 rfl) (hok4.like S11.like0) hok3 hok4 (by omega) (by omega)) rfl rfl ?_
            rintro e12 w12 ⟨v12, rfl, l12, A31, c31, rs, rfl, O12, hokR, hrv⟩
            refine ⟨_, rfl, ?_⟩
            have S12 := S11.adopt l12 O12
            refine ⟨⟨S12.rdB hb1x, S12.rdB hb2x⟩, ?_⟩
            refine DX_y 5 (by kernel_rfl) rfl (y_move rfl) rfl ?_
            refine DX_y 6 (by kernel_rfl) rfl (y_extract rfl rfl) rfl ?_
            refine DX_y 7 (by kernel_rfl) rfl (y_extract rfl rfl) rfl ?_
            refine DX_o1 8 (by kernel_rfl) rfl ?_
            refine o_alloc zz30 S12 rfl fun b13 w13 hb13 S13 => ?_
            refine ⟨⟨S13.rdB hb1x, S13.rdB hb2x⟩, ?_⟩
            refine DX_o1 9 (by kernel_rfl) rfl ?_
            refine o_stW S13 4 rfl rfl rfl sz30 rfl (scA_one _ _ _ _ _) fun w14 S14 => ?_
            refine ⟨⟨S14.rdB hb1x, S14.rdB hb2x⟩, ?_⟩
            refine DX_y 10 (by kernel_rfl) rfl (y_assign rfl) rfl ?_
            refine DX_nil (by kernel_rfl) ?_
            refine hK7 _ _ ?_
            refine T_seq fun K8 hK8 => ?_
            refine T_region ?_
            refine L_y (y_ldW Try.underlying25 rfl sz25 rfl (S14.blk 0 rfl) (show _ = (scA (thenR b t (l.map OP.v) b' t' (k.map OP.v)).1 (thenR b t (l.map OP.v) b' t' (k.map OP.v)).2.1 A23 qs.length c23).toList ∧ _ from ⟨rfl, rfl⟩)) rfl ?_
            refine L_y (y_ldW Try.underlying30 rfl sz30 rfl (S14.blk 4 rfl) (show _ = (scA (thenR b t (l.map OP.v) b' t' (k.map OP.v)).1 (thenR b t (l.map OP.v) b' t' (k.map OP.v)).2.1 A31 rs.length c31).toList ∧ _ from ⟨rfl, rfl⟩)) rfl ?_
            refine L_o (o_call Try.func15 rfl rfl (psameT A23 qs.length c23 qs (thenR b t (l.map OP.v) b' t' (k.map OP.v)).1 (thenR b t (l.map OP.v) b' t' (k.map OP.v)).2.1 A31 rs.length c31 rs w14 (S14.rd hQ) (hokQ.like S14.like0) (S14.row 3 rfl) (hokR.like S14.like0) (hqv.trans hrv.symm)) rfl rfl ?_)
            rintro e15 w15 ⟨v15, rfl, l15, rfl⟩
            refine ⟨_, rfl, ?_⟩
            have S15 := S14.like l15
            refine L_y (y_move rfl) rfl ?_
            refine L_splitB 37 rfl (fun h37 => ?_) (fun h37 => ?_)
            ·
              refine L_gyes rfl rfl ?_
              refine L_y (y_move rfl) rfl ?_
              refine L_gyes rfl rfl ?_
              refine L_y (y_move rfl) rfl ?_
              refine L_gyes rfl rfl ?_
              refine L_y (y_eql rfl rfl) rfl ?_
              refine L_y ((by first | exact y_pickT rfl rfl | exact y_pickF rfl rfl)) rfl ?_
              refine L_y (y_move rfl) rfl ?_
              refine L_split 42 rfl (fun h42 => ?_) (fun h42 => ?_)
              ·
                refine L_gyes rfl rfl ?_
                refine L_o (o_call Try.func9 rfl rfl (works w15) rfl rfl ?_)
                rintro e18 w18 ⟨v18, rfl, l18, rfl⟩
                refine ⟨_, rfl, ?_⟩
                have S18 := S15.like l18
                refine L_y ((by first | exact y_pickT rfl rfl | exact y_pickF rfl rfl)) rfl ?_
                refine L_y (y_assign rfl) rfl ?_
                refine L_nil ?_
                refine hK8 _ _ ?_
                refine T_ret ?_
                repeat (first | with_reducible refine up_then ?_ | with_reducible refine up_in ?_)
                refine ret1 rfl rfl ?_
                first | exact ⟨_, rfl, S18.like0, rfl⟩ | exact ⟨_, rfl, Like.trans lkw S18.like0, rfl⟩
              ·
                exact absurd rfl h42
            ·
              cases h37
          ·
            refine o_alloc zz30 S11 rfl fun b19 w19 hb19 S19 => ?_
            refine ⟨⟨S19.rdB hb1x, S19.rdB hb2x⟩, ?_⟩
            refine DX_o1 4 (by kernel_rfl) rfl ?_
            refine o_call Try.func17 rfl rfl (rthen A28 n c28 l b t A30 m c30 k b' t' w6 w19 (S19.row 1 rfl) (hok3.like S19.like0) (S19.row 2 rfl) (hok4.like S19.like0) hok3 hok4 (by omega) (by omega)) rfl rfl ?_
            rintro e20 w20 ⟨v20, rfl, l20, A31, c31, rs, rfl, O20, hokR, hrv⟩
            refine ⟨_, rfl, ?_⟩
            have S20 := S19.adopt l20 O20
            refine ⟨⟨S20.rdB hb1x, S20.rdB hb2x⟩, ?_⟩
            refine DX_y 5 (by kernel_rfl) rfl (y_move rfl) rfl ?_
            refine DX_y 6 (by kernel_rfl) rfl (y_extract rfl rfl) rfl ?_
            refine DX_y 7 (by kernel_rfl) rfl (y_extract rfl rfl) rfl ?_
            refine DX_o1 9 (by kernel_rfl) rfl ?_
            refine o_stW S20 3 rfl rfl rfl sz30 rfl (scA_one _ _ _ _ _) fun w21 S21 => ?_
            refine ⟨⟨S21.rdB hb1x, S21.rdB hb2x⟩, ?_⟩
            refine DX_y 10 (by kernel_rfl) rfl (y_assign rfl) rfl ?_
            refine DX_nil (by kernel_rfl) ?_
            refine hK7 _ _ ?_
            refine T_seq fun K9 hK9 => ?_
            refine T_region ?_
            refine L_y (y_ldW Try.underlying25 rfl sz25 rfl (S21.blk 0 rfl) (show _ = (scA (thenR b t (l.map OP.v) b' t' (k.map OP.v)).1 (thenR b t (l.map OP.v) b' t' (k.map OP.v)).2.1 A23 qs.length c23).toList ∧ _ from ⟨rfl, rfl⟩)) rfl ?_
            refine L_y (y_ldW Try.underlying30 rfl sz30 rfl (S21.blk 3 rfl) (show _ = (scA (thenR b t (l.map OP.v) b' t' (k.map OP.v)).1 (thenR b t (l.map OP.v) b' t' (k.map OP.v)).2.1 A31 rs.length c31).toList ∧ _ from ⟨rfl, rfl⟩)) rfl ?_
            refine L_o (o_call Try.func15 rfl rfl (psameT A23 qs.length c23 qs (thenR b t (l.map OP.v) b' t' (k.map OP.v)).1 (thenR b t (l.map OP.v) b' t' (k.map OP.v)).2.1 A31 rs.length c31 rs w21 (S21.rd hQ) (hokQ.like S21.like0) (S21.row 4 rfl) (hokR.like S21.like0) (hqv.trans hrv.symm)) rfl rfl ?_)
            rintro e22 w22 ⟨v22, rfl, l22, rfl⟩
            refine ⟨_, rfl, ?_⟩
            have S22 := S21.like l22
            refine L_y (y_move rfl) rfl ?_
            refine L_splitB 37 rfl (fun h37 => ?_) (fun h37 => ?_)
            ·
              refine L_gyes rfl rfl ?_
              refine L_y (y_move rfl) rfl ?_
              refine L_gyes rfl rfl ?_
              refine L_y (y_move rfl) rfl ?_
              refine L_gyes rfl rfl ?_
              refine L_y (y_eql rfl rfl) rfl ?_
              refine L_y ((by first | exact y_pickT rfl rfl | exact y_pickF rfl rfl)) rfl ?_
              refine L_y (y_move rfl) rfl ?_
              refine L_split 42 rfl (fun h42 => ?_) (fun h42 => ?_)
              ·
                refine L_gyes rfl rfl ?_
                refine L_o (o_call Try.func9 rfl rfl (works w22) rfl rfl ?_)
                rintro e25 w25 ⟨v25, rfl, l25, rfl⟩
                refine ⟨_, rfl, ?_⟩
                have S25 := S22.like l25
                refine L_y ((by first | exact y_pickT rfl rfl | exact y_pickF rfl rfl)) rfl ?_
                refine L_y (y_assign rfl) rfl ?_
                refine L_nil ?_
                refine hK9 _ _ ?_
                refine T_ret ?_
                repeat (first | with_reducible refine up_then ?_ | with_reducible refine up_in ?_)
                refine ret1 rfl rfl ?_
                first | exact ⟨_, rfl, S25.like0, rfl⟩ | exact ⟨_, rfl, Like.trans lkw S25.like0, rfl⟩
              ·
                exact absurd rfl h42
            ·
              cases h37
        ·
          refine o_alloc zz30 S10 rfl fun b26 w26 hb26 S26 => ?_
          refine ⟨⟨S26.rdB hb1x, S26.rdB hb2x⟩, ?_⟩
          refine DX_o1 3 (by kernel_rfl) rfl ?_
          refine o_call Try.func11 rfl rfl (plain B m d k b' t' w26 (S26.rd hk2) (hok4.like S26.like0) (by omega)) rfl rfl ?_
          rintro e27 w27 ⟨v27, rfl, l27, A30, c30, rfl, O27⟩
          refine ⟨_, rfl, ?_⟩
          have S27 := S26.adopt l27 O27
          refine ⟨⟨S27.rdB hb1x, S27.rdB hb2x⟩, ?_⟩
          refine DX_o1 4 (by kernel_rfl) rfl ?_
          refine o_call Try.func17 rfl rfl (rthen A28 n c28 l b t A30 m c30 k b' t' w6 w27 (S27.row 1 rfl) (hok3.like S27.like0) (S27.row 3 rfl) (hok4.like S27.like0) hok3 hok4 (by omega) (by omega)) rfl rfl ?_
          rintro e28 w28 ⟨v28, rfl, l28, A31, c31, rs, rfl, O28, hokR, hrv⟩
          refine ⟨_, rfl, ?_⟩
          have S28 := S27.adopt l28 O28
          refine ⟨⟨S28.rdB hb1x, S28.rdB hb2x⟩, ?_⟩
          refine DX_y 5 (by kernel_rfl) rfl (y_move rfl) rfl ?_
          refine DX_y 6 (by kernel_rfl) rfl (y_extract rfl rfl) rfl ?_
          refine DX_y 7 (by kernel_rfl) rfl (y_extract rfl rfl) rfl ?_
          refine DX_o1 9 (by kernel_rfl) rfl ?_
          refine o_stW S28 2 rfl rfl rfl sz30 rfl (scA_one _ _ _ _ _) fun w29 S29 => ?_
          refine ⟨⟨S29.rdB hb1x, S29.rdB hb2x⟩, ?_⟩
          refine DX_y 10 (by kernel_rfl) rfl (y_assign rfl) rfl ?_
          refine DX_nil (by kernel_rfl) ?_
          refine hK7 _ _ ?_
          refine T_seq fun K10 hK10 => ?_
          refine T_region ?_
          refine L_y (y_ldW Try.underlying25 rfl sz25 rfl (S29.blk 0 rfl) (show _ = (scA (thenR b t (l.map OP.v) b' t' (k.map OP.v)).1 (thenR b t (l.map OP.v) b' t' (k.map OP.v)).2.1 A23 qs.length c23).toList ∧ _ from ⟨rfl, rfl⟩)) rfl ?_
          refine L_y (y_ldW Try.underlying30 rfl sz30 rfl (S29.blk 2 rfl) (show _ = (scA (thenR b t (l.map OP.v) b' t' (k.map OP.v)).1 (thenR b t (l.map OP.v) b' t' (k.map OP.v)).2.1 A31 rs.length c31).toList ∧ _ from ⟨rfl, rfl⟩)) rfl ?_
          refine L_o (o_call Try.func15 rfl rfl (psameT A23 qs.length c23 qs (thenR b t (l.map OP.v) b' t' (k.map OP.v)).1 (thenR b t (l.map OP.v) b' t' (k.map OP.v)).2.1 A31 rs.length c31 rs w29 (S29.rd hQ) (hokQ.like S29.like0) (S29.row 4 rfl) (hokR.like S29.like0) (hqv.trans hrv.symm)) rfl rfl ?_)
          rintro e30 w30 ⟨v30, rfl, l30, rfl⟩
          refine ⟨_, rfl, ?_⟩
          have S30 := S29.like l30
          refine L_y (y_move rfl) rfl ?_
          refine L_splitB 37 rfl (fun h37 => ?_) (fun h37 => ?_)
          ·
            refine L_gyes rfl rfl ?_
            refine L_y (y_move rfl) rfl ?_
            refine L_gyes rfl rfl ?_
            refine L_y (y_move rfl) rfl ?_
            refine L_gyes rfl rfl ?_
            refine L_y (y_eql rfl rfl) rfl ?_
            refine L_y ((by first | exact y_pickT rfl rfl | exact y_pickF rfl rfl)) rfl ?_
            refine L_y (y_move rfl) rfl ?_
            refine L_split 42 rfl (fun h42 => ?_) (fun h42 => ?_)
            ·
              refine L_gyes rfl rfl ?_
              refine L_o (o_call Try.func9 rfl rfl (works w30) rfl rfl ?_)
              rintro e33 w33 ⟨v33, rfl, l33, rfl⟩
              refine ⟨_, rfl, ?_⟩
              have S33 := S30.like l33
              refine L_y ((by first | exact y_pickT rfl rfl | exact y_pickF rfl rfl)) rfl ?_
              refine L_y (y_assign rfl) rfl ?_
              refine L_nil ?_
              refine hK10 _ _ ?_
              refine T_ret ?_
              repeat (first | with_reducible refine up_then ?_ | with_reducible refine up_in ?_)
              refine ret1 rfl rfl ?_
              first | exact ⟨_, rfl, S33.like0, rfl⟩ | exact ⟨_, rfl, Like.trans lkw S33.like0, rfl⟩
            ·
              exact absurd rfl h42
          ·
            cases h37
      ·
        refine o_alloc zz30 S9 rfl fun b34 w34 hb34 S34 => ?_
        refine ⟨⟨S34.rdB hb1x, S34.rdB hb2x⟩, ?_⟩
        refine DX_o1 1 (by kernel_rfl) rfl ?_
        refine o_call Try.func11 rfl rfl (plain A n c l b t w34 (S34.rd hl2) (hok3.like S34.like0) (by omega)) rfl rfl ?_
        rintro e35 w35 ⟨v35, rfl, l35, A28, c28, rfl, O35⟩
        refine ⟨_, rfl, ?_⟩
        have S35 := S34.adopt l35 O35
        refine ⟨⟨S35.rdB hb1x, S35.rdB hb2x⟩, ?_⟩
        refine DX_o1 3 (by kernel_rfl) rfl ?_
        refine o_call Try.func11 rfl rfl (plain B m d k b' t' w35 (S35.rd hk2) (hok4.like S35.like0) (by omega)) rfl rfl ?_
        rintro e36 w36 ⟨v36, rfl, l36, A30, c30, rfl, O36⟩
        refine ⟨_, rfl, ?_⟩
        have S36 := S35.adopt l36 O36
        refine ⟨⟨S36.rdB hb1x, S36.rdB hb2x⟩, ?_⟩
        refine DX_o1 4 (by kernel_rfl) rfl ?_
        refine o_call Try.func17 rfl rfl (rthen A28 n c28 l b t A30 m c30 k b' t' w6 w36 (S36.row 2 rfl) (hok3.like S36.like0) (S36.row 3 rfl) (hok4.like S36.like0) hok3 hok4 (by omega) (by omega)) rfl rfl ?_
        rintro e37 w37 ⟨v37, rfl, l37, A31, c31, rs, rfl, O37, hokR, hrv⟩
        refine ⟨_, rfl, ?_⟩
        have S37 := S36.adopt l37 O37
        refine ⟨⟨S37.rdB hb1x, S37.rdB hb2x⟩, ?_⟩
        refine DX_y 5 (by kernel_rfl) rfl (y_move rfl) rfl ?_
        refine DX_y 6 (by kernel_rfl) rfl (y_extract rfl rfl) rfl ?_
        refine DX_y 7 (by kernel_rfl) rfl (y_extract rfl rfl) rfl ?_
        refine DX_o1 9 (by kernel_rfl) rfl ?_
        refine o_stW S37 1 rfl rfl rfl sz30 rfl (scA_one _ _ _ _ _) fun w38 S38 => ?_
        refine ⟨⟨S38.rdB hb1x, S38.rdB hb2x⟩, ?_⟩
        refine DX_y 10 (by kernel_rfl) rfl (y_assign rfl) rfl ?_
        refine DX_nil (by kernel_rfl) ?_
        refine hK7 _ _ ?_
        refine T_seq fun K11 hK11 => ?_
        refine T_region ?_
        refine L_y (y_ldW Try.underlying25 rfl sz25 rfl (S38.blk 0 rfl) (show _ = (scA (thenR b t (l.map OP.v) b' t' (k.map OP.v)).1 (thenR b t (l.map OP.v) b' t' (k.map OP.v)).2.1 A23 qs.length c23).toList ∧ _ from ⟨rfl, rfl⟩)) rfl ?_
        refine L_y (y_ldW Try.underlying30 rfl sz30 rfl (S38.blk 1 rfl) (show _ = (scA (thenR b t (l.map OP.v) b' t' (k.map OP.v)).1 (thenR b t (l.map OP.v) b' t' (k.map OP.v)).2.1 A31 rs.length c31).toList ∧ _ from ⟨rfl, rfl⟩)) rfl ?_
        refine L_o (o_call Try.func15 rfl rfl (psameT A23 qs.length c23 qs (thenR b t (l.map OP.v) b' t' (k.map OP.v)).1 (thenR b t (l.map OP.v) b' t' (k.map OP.v)).2.1 A31 rs.length c31 rs w38 (S38.rd hQ) (hokQ.like S38.like0) (S38.row 4 rfl) (hokR.like S38.like0) (hqv.trans hrv.symm)) rfl rfl ?_)
        rintro e39 w39 ⟨v39, rfl, l39, rfl⟩
        refine ⟨_, rfl, ?_⟩
        have S39 := S38.like l39
        refine L_y (y_move rfl) rfl ?_
        refine L_splitB 37 rfl (fun h37 => ?_) (fun h37 => ?_)
        ·
          refine L_gyes rfl rfl ?_
          refine L_y (y_move rfl) rfl ?_
          refine L_gyes rfl rfl ?_
          refine L_y (y_move rfl) rfl ?_
          refine L_gyes rfl rfl ?_
          refine L_y (y_eql rfl rfl) rfl ?_
          refine L_y ((by first | exact y_pickT rfl rfl | exact y_pickF rfl rfl)) rfl ?_
          refine L_y (y_move rfl) rfl ?_
          refine L_split 42 rfl (fun h42 => ?_) (fun h42 => ?_)
          ·
            refine L_gyes rfl rfl ?_
            refine L_o (o_call Try.func9 rfl rfl (works w39) rfl rfl ?_)
            rintro e42 w42 ⟨v42, rfl, l42, rfl⟩
            refine ⟨_, rfl, ?_⟩
            have S42 := S39.like l42
            refine L_y ((by first | exact y_pickT rfl rfl | exact y_pickF rfl rfl)) rfl ?_
            refine L_y (y_assign rfl) rfl ?_
            refine L_nil ?_
            refine hK11 _ _ ?_
            refine T_ret ?_
            repeat (first | with_reducible refine up_then ?_ | with_reducible refine up_in ?_)
            refine ret1 rfl rfl ?_
            first | exact ⟨_, rfl, S42.like0, rfl⟩ | exact ⟨_, rfl, Like.trans lkw S42.like0, rfl⟩
          ·
            exact absurd rfl h42
        ·
          cases h37


theorem then_law (A : Option Addr) (n c : Nat) (l : List OP) (b t : Int) (B : Option Addr) (m d : Nat) (k : List OP) (b' t' : Int) (w0 : World) (hl : Rs w0 4 A n c (l.flatMap opf)) (hok : OkO w0 l) (hk : Rs w0 4 B m d (k.flatMap opf)) (hok2 : OkO w0 k) :
    Calls Try.prog 4 #[.agg (scA b t A n c), .agg (scA b' t' B m d)] w0 fun e w' => e = .returned (.bool true) ∧ Below w0.heap.size w0 w' :=
  (lthen A n c l b t B m d k b' t' w0 hl hok hk hok2).mono fun e w' ⟨u, h1, h2, h3⟩ => by subst h3; exact ⟨h1, h2⟩
end Go.Proofs.Ytpcgldkllnkaeaa
