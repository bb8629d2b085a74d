/-
  The law DeltaPuts.
-/
import Derived.Test.YtpcgldkllnkaeaaAb
namespace Go.Proofs.Ytpcgldkllnkaeaa
open Go.RowKit Zk Zx
set_option linter.unusedVariables false
set_option linter.unusedSimpArgs false

set_option maxRecDepth 100000 in
theorem lputs (A : Option Addr) (n c : Nat) (l : List OP) (b t : Int) (w0 : World) (hl : Rs w0 4 A n c (l.flatMap opf)) (hok : OkO w0 l) :
    Calls Try.prog 5 #[.agg (scA b t A n c)] w0 fun e w' => ∃ u, e = .returned u ∧ Like w0 w' ∧ u = .bool true := by
  refine enter1 (env := [(0, .agg (scA b t A n c))]) [.agg (scA b t A n c)] Try.func5 rfl Try.ntmps5 rfl rfl ?_
  have hn := ops_n hl; have hcap := hl.cap; have hmax := hl.max; have S0 := St.start w0 noM
  refine T_seq fun K1 hK1 => ?_
  refine T_region ?_
  refine L_o (o_box rfl S0 rfl fun b1 w1 hb1 S1 => ?_)
  refine L_y (y_assign rfl) rfl ?_
  refine L_nil ?_
  refine hK1 _ _ ?_
  refine T_seq fun K2 hK2 => ?_
  refine T_seq fun K3 hK3 => ?_
  refine T_region ?_
  refine L_y (y_fieldA 2 Try.underlying25 rfl sz23 rfl rfl rfl) rfl ?_
  refine L_y (y_ldc Try.underlying23 rfl rfl (((S1.blk 0 rfl).cell _).trans (by rfl))) rfl ?_
  refine L_y (y_len Try.underlying23 rfl) rfl ?_
  refine L_y (y_gtr rfl rfl) rfl ?_
  refine L_nil ?_
  refine hK3 _ _ ?_
  refine T_cond rfl (fun h10 => ?_) (fun h10 => ?_)
  ·
    refine T_seq fun K4 hK4 => ?_
    refine T_region ?_
    refine L_o (o_call Try.func9 rfl rfl (works w1) rfl rfl ?_)
    rintro e2 w2 ⟨v2, rfl, l2, rfl⟩
    refine ⟨_, rfl, ?_⟩
    have S2 := S1.like l2
    refine L_y (y_assign rfl) rfl ?_
    refine L_nil ?_
    refine hK4 _ _ ?_
    refine T_ret ?_
    repeat (first | with_reducible refine up_then ?_ | with_reducible refine up_in ?_)
    refine ret1 rfl rfl ?_
    exact ⟨_, rfl, S2.like0, rfl⟩
  ·
    refine T_skip ?_
    refine hK2 _ _ ?_
    refine T_seq fun K5 hK5 => ?_
    refine T_region ?_
    refine L_y (y_ldW Try.underlying25 rfl sz25 rfl (S1.blk 0 rfl) (show _ = (scA b t A n c).toList ∧ _ from ⟨rfl, rfl⟩)) rfl ?_
    refine L_o (o_call Try.func18 rfl rfl (pput A n c l b t w1 (S1.rd hl) (hok.like S1.like0) (by omega)) rfl rfl ?_)
    rintro e3 w3 ⟨v3, rfl, l3, A14, c14, rfl, O3⟩
    refine ⟨_, rfl, ?_⟩
    have S3 := S1.adopt l3 O3
    refine L_y (y_move rfl) rfl ?_
    refine L_y (y_extract rfl rfl) rfl ?_
    refine L_y (y_extract rfl rfl) rfl ?_
    refine L_y (y_assign rfl) rfl ?_
    refine L_y (y_assign rfl) rfl ?_
    refine L_nil ?_
    refine hK5 _ _ ?_
    refine T_seq fun K6 hK6 => ?_
    refine T_region ?_
    refine L_y (y_ldW Try.underlying25 rfl sz25 rfl (S3.blk 0 rfl) (show _ = (scA b t A n c).toList ∧ _ from ⟨rfl, rfl⟩)) rfl ?_
    refine L_o (o_call Try.func11 rfl rfl (plain A n c l b t w3 (S3.rd hl) (hok.like S3.like0) (by omega)) rfl rfl ?_)
    rintro e4 w4 ⟨v4, rfl, l4, A19, c19, rfl, O4⟩
    refine ⟨_, rfl, ?_⟩
    have S4 := S3.adopt l4 O4
    refine L_o (o_call Try.func19 rfl rfl (rput A19 n c19 l b t w4 (S4.row 2 rfl) (hok.like S4.like0) (by omega)) rfl rfl ?_)
    rintro e5 w5 ⟨v5, rfl, l5, A20, c20, rfl, O5⟩
    refine ⟨_, rfl, ?_⟩
    have S5 := S4.adopt l5 O5
    refine L_y (y_move rfl) rfl ?_
    refine L_y (y_extract rfl rfl) rfl ?_
    refine L_y (y_extract rfl rfl) rfl ?_
    refine L_y (y_assign rfl) rfl ?_
    refine L_y (y_assign rfl) rfl ?_
    refine L_nil ?_
    refine hK6 _ _ ?_
    refine T_seq fun K7 hK7 => ?_
    refine T_drawnL [(0, true), (1, true), (2, false), (3, true), (4, true), (5, true), (6, true), (7, true), (8, true), (9, true), (11, true), (10, false), (12, false), (13, false), (14, true), (15, true), (16, true), (17, false), (18, true), (19, true)] hmix (by kernel_rfl) fun w6 l6 => ?_
    have S6 := S5.like l6
    refine DL_y rfl (y_move rfl) rfl ?_
    refine DL_y rfl (y_move rfl) rfl ?_
    refine DL_o rfl (o_call Try.func14 rfl rfl (same1T A14 A20 (putR b t (l.map OP.v)).1.length c14 (putR b t (l.map OP.v)).1.length c20 (putR b t (l.map OP.v)).1 w6 (S6.row 1 rfl) (S6.row 3 rfl)) rfl rfl ?_)
    rintro e7 w7 ⟨v7, rfl, l7, rfl⟩
    refine ⟨_, rfl, l7, ?_⟩
    have S7 := S6.like l7
    have q7 := l7
    refine DL_y rfl (y_move rfl) rfl ?_
    refine DL_splitB 26 rfl (fun h26 => ?_) (fun h26 => ?_)
    ·
      refine DL_gyes rfl rfl rfl (y_move rfl) rfl ?_
      refine DL_gyes rfl rfl rfl (y_move rfl) rfl ?_
      refine DL_gyes rfl rfl rfl (y_eql rfl rfl) rfl ?_
      refine DL_y rfl ((by first | exact y_pickT rfl rfl | exact y_pickF rfl rfl)) rfl ?_
      refine DL_y rfl (y_move rfl) rfl ?_
      refine DL_split 31 rfl (fun h31 => ?_) (fun h31 => ?_)
      ·
        refine DL_gyes rfl rfl rfl (y_ldW Try.underlying25 rfl sz25 rfl (S6.blk 0 rfl) (show _ = (scA b t A n c).toList ∧ _ from ⟨rfl, rfl⟩)) rfl ?_
        refine DL_gyes rfl rfl rfl (y_ldW Try.underlying25 rfl sz25 rfl (S6.blk 0 rfl) (show _ = (scA b t A n c).toList ∧ _ from ⟨rfl, rfl⟩)) rfl ?_
        refine DL_ogyes rfl rfl rfl (o_call Try.func20 rfl rfl (pcheck A n c l b t w7 (S7.rd hl) (hok.like S7.like0)) rfl rfl ?_)
        rintro e8 w8 ⟨v8, rfl, l8, rfl⟩
        refine ⟨_, rfl, (Like.trans q7 l8), ?_⟩
        have S8 := S7.like l8
        have q8 := (Like.trans q7 l8)
        refine DL_ogyes rfl rfl rfl (o_call Try.func11 rfl rfl (plain A n c l b t w8 (S8.rd hl) (hok.like S8.like0) (by omega)) rfl rfl ?_)
        rintro e9 w9 ⟨v9, rfl, l9, A35, c35, rfl, O9⟩
        refine ⟨_, rfl, (Like.trans q8 l9), ?_⟩
        have S9 := S8.adopt l9 O9
        have q9 := (Like.trans q8 l9)
        refine DL_ogyes rfl rfl rfl (o_call Try.func21 rfl rfl (rcheck A35 n c35 l b t w9 (S9.row 4 rfl) (hok.like S9.like0)) rfl rfl ?_)
        rintro e10 w10 ⟨v10, rfl, l10, rfl⟩
        refine ⟨_, rfl, (Like.trans q9 l10), ?_⟩
        have S10 := S9.like l10
        have q10 := (Like.trans q9 l10)
        refine DL_gyes rfl rfl rfl (y_eql rfl rfl) rfl ?_
        refine DL_y rfl ((by first | exact y_pickT rfl rfl | exact y_pickF rfl rfl)) rfl ?_
        refine DL_y rfl (y_move rfl) rfl ?_
        refine DL_split 39 rfl (fun h39 => ?_) (fun h39 => ?_)
        ·
          refine DL_ogyes rfl rfl rfl (o_call Try.func9 rfl rfl (works w10) rfl rfl ?_)
          rintro e11 w11 ⟨v11, rfl, l11, rfl⟩
          refine ⟨_, rfl, (Like.trans q10 l11), ?_⟩
          have S11 := S10.like l11
          have q11 := (Like.trans q10 l11)
          refine DL_y rfl ((by first | exact y_pickT rfl rfl | exact y_pickF rfl rfl)) rfl ?_
          refine DL_y rfl (y_assign rfl) rfl ?_
          refine DL_nil ?_
          refine hK7 _ _ ?_
          refine T_ret ?_
          repeat (first | with_reducible refine up_then ?_ | with_reducible refine up_in ?_)
          refine ret1 rfl rfl ?_
          exact ⟨_, rfl, S11.like0, rfl⟩
        ·
          exact absurd rfl h39
      ·
        exact absurd rfl h31
    ·
      cases h26


theorem puts_law (A : Option Addr) (n c : Nat) (l : List OP) (b t : Int) (w0 : World) (hl : Rs w0 4 A n c (l.flatMap opf)) (hok : OkO w0 l) :
    Calls Try.prog 5 #[.agg (scA b t A n c)] w0 fun e w' => e = .returned (.bool true) ∧ Below w0.heap.size w0 w' :=
  (lputs A n c l b t w0 hl hok).mono fun e w' ⟨u, h1, h2, h3⟩ => by subst h3; exact ⟨h1, h2⟩
end Go.Proofs.Ytpcgldkllnkaeaa
