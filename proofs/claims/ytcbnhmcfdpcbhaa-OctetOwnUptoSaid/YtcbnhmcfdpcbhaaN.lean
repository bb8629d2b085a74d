/-
  The law: took.
-/
import Derived.Test.YtcbnhmcfdpcbhaaM
import Derived.Test.YtcbnhmcfdpcbhaaK
namespace Go.Proofs.Ytcbnhmcfdpcbhaa
open Go.RowKit Zk Zx
set_option linter.unusedVariables false
set_option linter.unusedSimpArgs false

theorem be_rw (l : List UInt8) (p q k : Nat) : be (rwL l p q k) < 256 ^ k := Nat.lt_of_lt_of_le (be_lt _) (Nat.pow_le_pow_right (by decide) (rw_le l p q k))
theorem rw_at (l : List UInt8) (p q k : Nat) (hp : p ≤ l.length) : rwP l p q k ≤ l.length := by
  unfold rwP
  split
  · exact tkP_le l p k hp
  · exact hp
theorem rn_at (l : List UInt8) (p q : Nat) (m : Int) (hp : p ≤ l.length) : rnP l p q m ≤ l.length := by
  unfold rnP
  split
  · exact hp
  · exact rw_at l p q _ hp


set_option maxRecDepth 100000 in
theorem took (g : Nat) (A : Option Addr) (n c : Nat) (g2 : Nat) (B : Option Addr) (nb cb : Nat) (l : List UInt8) (p q : Nat) (td : Int) (tx : Nat) (tm : Int) (w0 : World) (hw : (rdr g A n c l p q).holds w0) (hx : (xr g2 B nb cb p q).holds w0) (hap : ∀ i, (rdr g A n c l p q).dom i → ¬ (xr g2 B nb cb p q).dom i) (hb : Rs w0 1 B nb cb (bL l)) (hp : p ≤ l.length) (hn62 : n ≤ 70368744177664) (htm : tm ≤ 9223372036854775807) (hbg : ∀ ad, 0 < nb → B = some ad → ad.block ≠ g2) (hbr : ∀ ad, 0 < nb → B = some ad → ¬ (rdr g A n c l p q).dom ad.block) :
    Calls Try.prog 23 #[.pointer (some ⟨g, 0, none⟩), .pointer (some ⟨g2, 0, none⟩), .agg #[.int .i64 td, .int .u64 (tx : Int), .int .i64 tm]] w0 fun e w' => ∃ u, e = .returned u ∧ u = .bool true ∧ ∃ p' q', p' ≤ l.length ∧ Turned w0 w' (both (rdr g A n c l p q) (xr g2 B nb cb p q)) (both (rdr g A n c l p' q') (xr g2 B nb cb p' q')) := by
  refine enter1 (env := [(0, .pointer (some ⟨g, 0, none⟩)), (1, .pointer (some ⟨g2, 0, none⟩)), (2, .agg #[.int .i64 td, .int .u64 (tx : Int), .int .i64 tm])]) [.pointer (some ⟨g, 0, none⟩), .pointer (some ⟨g2, 0, none⟩), .agg #[.int .i64 td, .int .u64 (tx : Int), .int .i64 tm]] Try.func23 rfl Try.ntmps23 rfl rfl ?_
  have hnl := rdr_len hw; have hnb := hb.lenb; have hM : ∀ ad, 0 < nb → B = some ad → ¬ ((rdr g A n c l p q).dom ad.block ∨ (xr g2 B nb cb p q).dom ad.block) := fun ad h1 h2 h => h.elim (hbr ad h1 h2) (hbg ad h1 h2); have S0 := St.borrow2 (rdr g A n c l p q) (xr g2 B nb cb p q) hw hx (fun i h => h.elim (rdr_lt hw i) (xr_lt hx i)) hap
  refine T_seq fun K1 hK1 => ?_
  refine T_region ?_
  refine L_o (o_box rfl S0 rfl fun b1 w1 hb1 S1 => ?_)
  refine L_y (y_assign rfl) rfl ?_
  refine L_nil ?_
  refine hK1 _ _ ?_
  refine T_seq fun K2 hK2 => ?_
  refine T_region ?_
  refine L_y (y_assign rfl) rfl ?_
  refine L_nil ?_
  refine hK2 _ _ ?_
  refine T_seq fun K3 hK3 => ?_
  refine T_seq fun K4 hK4 => ?_
  refine T_region ?_
  refine L_y (y_fieldA 0 Try.underlying51 rfl sz3 rfl rfl rfl) rfl ?_
  refine L_y (y_ldc Try.underlying3 rfl rfl (((S1.blk 2 rfl).cell _).trans (by rfl))) rfl ?_
  refine L_nil ?_
  refine hK4 _ _ ?_
  refine T_block ?_
  refine T_seq fun K5 hK5 => ?_
  refine T_region ?_
  refine L_y (y_eql rfl rfl) rfl ?_
  refine L_y (y_assign rfl) rfl ?_
  refine L_nil ?_
  refine hK5 _ _ ?_
  refine T_cond rfl (fun h19 => ?_) (fun h19 => ?_)
  ·
    have hp2 : rwP l p q 1 ≤ l.length := rw_at l p q _ hp
    have hb1 := be_rw l p q 1
    refine T_region ?_
    refine L_y (y_move rfl) rfl ?_
    refine L_o (o_call Try.func24 rfl rfl (rbyte g A n c l p q w1 (S1.get 0 rfl) hp (by omega)) rfl rfl ?_)
    rintro e2 w2 ⟨v2, rfl, rfl, T2⟩
    refine ⟨_, rfl, ?_⟩
    have S2 := S1.turn 0 rfl T2
    refine L_y (y_conv is5 Try.underlying27 rfl (u64w (by omega))) rfl ?_
    refine L_y (y_move rfl) rfl ?_
    refine L_o (o_call Try.func40 rfl rfl (xbig g2 B nb cb l p q 1 w2 (S2.get 1 rfl) (S2.rdM hb hM) hp (by omega) hbg (by omega)) rfl rfl ?_)
    rintro e3 w3 ⟨v3, rfl, rfl, T3⟩
    refine ⟨_, rfl, ?_⟩
    have S3 := S2.turn 1 rfl T3
    refine L_y (y_eql rfl rfl) rfl ?_
    refine L_y (y_assign rfl) rfl ?_
    refine L_nil ?_
    refine hK3 _ _ ?_
    refine T_seq fun K6 hK6 => ?_
    refine T_drawnL [(0, true), (1, true), (2, true), (4, true), (5, true), (6, true), (7, true), (3, false), (8, true), (9, true), (10, true), (11, true), (13, true), (14, true), (15, true), (16, true), (12, false), (17, true), (18, true), (19, true), (20, true), (22, true), (23, true), (24, true), (25, true), (26, true), (27, true), (28, true), (29, true), (30, true), (31, true), (21, false), (32, true), (33, true), (34, true), (35, true), (37, true), (36, false), (38, false), (39, true), (40, true), (41, true)] hmix (by kernel_rfl) fun w4 l4 => ?_
    have S4 := S3.like l4
    refine DL_y rfl (y_move rfl) rfl ?_
    refine DL_y rfl (y_move rfl) rfl ?_
    refine DL_split 65 rfl (fun h65 => ?_) (fun h65 => ?_)
    ·
      refine DL_gyes rfl rfl rfl (y_move rfl) rfl ?_
      refine DL_gyes rfl rfl rfl (y_move rfl) rfl ?_
      refine DL_gyes rfl rfl rfl (y_nilp rfl) rfl ?_
      refine DL_gyes rfl rfl rfl (y_fieldA 2 Try.underlying48 rfl sz3 rfl rfl rfl) rfl ?_
      refine DL_gyes rfl rfl rfl (y_ldc Try.underlying3 rfl rfl (((S4.blk 1 rfl).cell _).trans (by rfl))) rfl ?_
      refine DL_ogyes rfl rfl rfl (o_call Try.func18 rfl rfl (rerr g A n c l _ _ w4 (S4.get 0 rfl) hp2) rfl rfl ?_)
      rintro e5 w5 ⟨v5, rfl, l5, rfl⟩
      refine ⟨_, rfl, l5, ?_⟩
      have S5 := S4.like l5
      have q5 := l5
      refine DL_gyes rfl rfl rfl (y_eql rfl rfl) rfl ?_
      refine DL_y rfl ((by first | exact y_pickT rfl rfl | exact y_pickF rfl rfl)) rfl ?_
      refine DL_y rfl (y_move rfl) rfl ?_
      refine DL_split 74 rfl (fun h74 => ?_) (fun h74 => ?_)
      ·
        refine DL_gyes rfl rfl rfl (y_move rfl) rfl ?_
        refine DL_gyes rfl rfl rfl (y_move rfl) rfl ?_
        refine DL_gyes rfl rfl rfl (y_nilp rfl) rfl ?_
        refine DL_gyes rfl rfl rfl (y_fieldA 1 Try.underlying48 rfl sz3 rfl rfl rfl) rfl ?_
        refine DL_gyes rfl rfl rfl (y_ldc Try.underlying3 rfl rfl (((S4.blk 1 rfl).cell _).trans (by rfl))) rfl ?_
        refine DL_ogyes rfl rfl rfl (o_call Try.func22 rfl rfl (rat g A n c l _ _ w5 (S5.get 0 rfl) hp2) rfl rfl ?_)
        rintro e6 w6 ⟨v6, rfl, l6, rfl⟩
        refine ⟨_, rfl, (Like.trans q5 l6), ?_⟩
        have S6 := S5.like l6
        have q6 := (Like.trans q5 l6)
        refine DL_gyes rfl rfl rfl (y_eql rfl rfl) rfl ?_
        refine DL_y rfl ((by first | exact y_pickT rfl rfl | exact y_pickF rfl rfl)) rfl ?_
        refine DL_y rfl (y_move rfl) rfl ?_
        refine DL_split 83 rfl (fun h83 => ?_) (fun h83 => ?_)
        ·
          refine DL_gyes rfl rfl rfl (y_move rfl) rfl ?_
          refine DL_gyes rfl rfl rfl (y_move rfl) rfl ?_
          refine DL_gyes rfl rfl rfl (y_nilp rfl) rfl ?_
          refine DL_gyes rfl rfl rfl (y_fieldA 0 Try.underlying48 rfl sz25 rfl rfl rfl) rfl ?_
          refine DL_gyes rfl rfl rfl (y_ldc Try.underlying25 rfl rfl (((S4.blk 1 rfl).cell _).trans (by rfl))) rfl ?_
          refine DL_gyes rfl rfl rfl (y_len Try.underlying25 rfl) rfl ?_
          refine DL_gyes rfl rfl rfl (y_move rfl) rfl ?_
          refine DL_gyes rfl rfl rfl (y_nilp rfl) rfl ?_
          refine DL_gyes rfl rfl rfl (y_fieldA 1 Try.underlying48 rfl sz3 rfl rfl rfl) rfl ?_
          refine DL_gyes rfl rfl rfl (y_ldc Try.underlying3 rfl rfl (((S4.blk 1 rfl).cell _).trans (by rfl))) rfl ?_
          refine DL_gyes rfl rfl rfl (y_sub rfl rfl (i64w (by omega))) rfl ?_
          refine DL_ogyes rfl rfl rfl (o_call Try.func19 rfl rfl (rleft g A n c l _ _ w6 (S6.get 0 rfl) hp2) rfl rfl ?_)
          rintro e7 w7 ⟨v7, rfl, l7, rfl⟩
          refine ⟨_, rfl, (Like.trans q6 l7), ?_⟩
          have S7 := S6.like l7
          have q7 := (Like.trans q6 l7)
          refine DL_gyes rfl rfl rfl (y_eql rfl rfl) rfl ?_
          refine DL_y rfl ((by first | exact y_pickT rfl rfl | exact y_pickF rfl rfl)) rfl ?_
          refine DL_y rfl (y_move rfl) rfl ?_
          refine DL_split 98 rfl (fun h98 => ?_) (fun h98 => ?_)
          ·
            refine DL_gyes rfl rfl rfl (y_move rfl) rfl ?_
            refine DL_gyes rfl rfl rfl (y_move rfl) rfl ?_
            refine DL_ogyes rfl rfl rfl (o_call Try.func28 rfl rfl (rend g A n c l _ _ w7 (S7.get 0 rfl) hp2) rfl rfl ?_)
            rintro e8 w8 ⟨v8, rfl, l8, rfl⟩
            refine ⟨_, rfl, (Like.trans q7 l8), ?_⟩
            have S8 := S7.like l8
            have q8 := (Like.trans q7 l8)
            refine DL_ogyes rfl rfl rfl (o_call Try.func44 rfl rfl (xend g2 B nb cb l _ _ w8 (S8.get 1 rfl) (S8.rdM hb hM) hp2 (by omega)) rfl rfl ?_)
            rintro e9 w9 ⟨v9, rfl, l9, rfl⟩
            refine ⟨_, rfl, (Like.trans q8 l9), ?_⟩
            have S9 := S8.like l9
            have q9 := (Like.trans q8 l9)
            refine DL_gyes rfl rfl rfl (y_eql rfl rfl) rfl ?_
            refine DL_y rfl ((by first | exact y_pickT rfl rfl | exact y_pickF rfl rfl)) rfl ?_
            refine DL_y rfl (y_assign rfl) rfl ?_
            refine DL_nil ?_
            refine hK6 _ _ ?_
            refine T_ret ?_
            repeat (first | with_reducible refine up_then ?_ | with_reducible refine up_in ?_)
            refine ret1 rfl rfl ?_
            exact ⟨_, rfl, by rw [show nb = n by omega]; exact congrArg Value.bool (decide_eq_true rfl), _, _, hp2, S9.turned2 0 1 rfl rfl⟩
          ·
            exact absurd (by omega) h98
        ·
          exact absurd rfl h83
      ·
        exact absurd rfl h74
    ·
      exact absurd rfl h65
  ·
    refine T_seq fun K7 hK7 => ?_
    refine T_region ?_
    refine L_y (y_eql rfl rfl) rfl ?_
    refine L_y (y_assign rfl) rfl ?_
    refine L_nil ?_
    refine hK7 _ _ ?_
    refine T_cond rfl (fun h27 => ?_) (fun h27 => ?_)
    ·
      have hp2 : rwP l p q 4 ≤ l.length := rw_at l p q _ hp
      have hb4 := be_rw l p q 4
      refine T_region ?_
      refine L_y (y_move rfl) rfl ?_
      refine L_o (o_call Try.func25 rfl rfl (ru32 g A n c l p q w1 (S1.get 0 rfl) hp (by omega)) rfl rfl ?_)
      rintro e10 w10 ⟨v10, rfl, rfl, T10⟩
      refine ⟨_, rfl, ?_⟩
      have S10 := S1.turn 0 rfl T10
      refine L_y (y_conv is54 Try.underlying27 rfl (u64w (by omega))) rfl ?_
      refine L_y (y_move rfl) rfl ?_
      refine L_o (o_call Try.func40 rfl rfl (xbig g2 B nb cb l p q 4 w10 (S10.get 1 rfl) (S10.rdM hb hM) hp (by omega) hbg (by omega)) rfl rfl ?_)
      rintro e11 w11 ⟨v11, rfl, rfl, T11⟩
      refine ⟨_, rfl, ?_⟩
      have S11 := S10.turn 1 rfl T11
      refine L_y (y_eql rfl rfl) rfl ?_
      refine L_y (y_assign rfl) rfl ?_
      refine L_nil ?_
      refine hK3 _ _ ?_
      refine T_seq fun K8 hK8 => ?_
      refine T_drawnL [(0, true), (1, true), (2, true), (4, true), (5, true), (6, true), (7, true), (3, false), (8, true), (9, true), (10, true), (11, true), (13, true), (14, true), (15, true), (16, true), (12, false), (17, true), (18, true), (19, true), (20, true), (22, true), (23, true), (24, true), (25, true), (26, true), (27, true), (28, true), (29, true), (30, true), (31, true), (21, false), (32, true), (33, true), (34, true), (35, true), (37, true), (36, false), (38, false), (39, true), (40, true), (41, true)] hmix (by kernel_rfl) fun w12 l12 => ?_
      have S12 := S11.like l12
      refine DL_y rfl (y_move rfl) rfl ?_
      refine DL_y rfl (y_move rfl) rfl ?_
      refine DL_split 65 rfl (fun h65 => ?_) (fun h65 => ?_)
      ·
        refine DL_gyes rfl rfl rfl (y_move rfl) rfl ?_
        refine DL_gyes rfl rfl rfl (y_move rfl) rfl ?_
        refine DL_gyes rfl rfl rfl (y_nilp rfl) rfl ?_
        refine DL_gyes rfl rfl rfl (y_fieldA 2 Try.underlying48 rfl sz3 rfl rfl rfl) rfl ?_
        refine DL_gyes rfl rfl rfl (y_ldc Try.underlying3 rfl rfl (((S12.blk 1 rfl).cell _).trans (by rfl))) rfl ?_
        refine DL_ogyes rfl rfl rfl (o_call Try.func18 rfl rfl (rerr g A n c l _ _ w12 (S12.get 0 rfl) hp2) rfl rfl ?_)
        rintro e13 w13 ⟨v13, rfl, l13, rfl⟩
        refine ⟨_, rfl, l13, ?_⟩
        have S13 := S12.like l13
        have q13 := l13
        refine DL_gyes rfl rfl rfl (y_eql rfl rfl) rfl ?_
        refine DL_y rfl ((by first | exact y_pickT rfl rfl | exact y_pickF rfl rfl)) rfl ?_
        refine DL_y rfl (y_move rfl) rfl ?_
        refine DL_split 74 rfl (fun h74 => ?_) (fun h74 => ?_)
        ·
          refine DL_gyes rfl rfl rfl (y_move rfl) rfl ?_
          refine DL_gyes rfl rfl rfl (y_move rfl) rfl ?_
          refine DL_gyes rfl rfl rfl (y_nilp rfl) rfl ?_
          refine DL_gyes rfl rfl rfl (y_fieldA 1 Try.underlying48 rfl sz3 rfl rfl rfl) rfl ?_
          refine DL_gyes rfl rfl rfl (y_ldc Try.underlying3 rfl rfl (((S12.blk 1 rfl).cell _).trans (by rfl))) rfl ?_
          refine DL_ogyes rfl rfl rfl (o_call Try.func22 rfl rfl (rat g A n c l _ _ w13 (S13.get 0 rfl) hp2) rfl rfl ?_)
          rintro e14 w14 ⟨v14, rfl, l14, rfl⟩
          refine ⟨_, rfl, (Like.trans q13 l14), ?_⟩
          have S14 := S13.like l14
          have q14 := (Like.trans q13 l14)
          refine DL_gyes rfl rfl rfl (y_eql rfl rfl) rfl ?_
          refine DL_y rfl ((by first | exact y_pickT rfl rfl | exact y_pickF rfl rfl)) rfl ?_
          refine DL_y rfl (y_move rfl) rfl ?_
          refine DL_split 83 rfl (fun h83 => ?_) (fun h83 => ?_)
          ·
            refine DL_gyes rfl rfl rfl (y_move rfl) rfl ?_
            refine DL_gyes rfl rfl rfl (y_move rfl) rfl ?_
            refine DL_gyes rfl rfl rfl (y_nilp rfl) rfl ?_
            refine DL_gyes rfl rfl rfl (y_fieldA 0 Try.underlying48 rfl sz25 rfl rfl rfl) rfl ?_
            refine DL_gyes rfl rfl rfl (y_ldc Try.underlying25 rfl rfl (((S12.blk 1 rfl).cell _).trans (by rfl))) rfl ?_
            refine DL_gyes rfl rfl rfl (y_len Try.underlying25 rfl) rfl ?_
            refine DL_gyes rfl rfl rfl (y_move rfl) rfl ?_
            refine DL_gyes rfl rfl rfl (y_nilp rfl) rfl ?_
            refine DL_gyes rfl rfl rfl (y_fieldA 1 Try.underlying48 rfl sz3 rfl rfl rfl) rfl ?_
            refine DL_gyes rfl rfl rfl (y_ldc Try.underlying3 rfl rfl (((S12.blk 1 rfl).cell _).trans (by rfl))) rfl ?_
            refine DL_gyes rfl rfl rfl (y_sub rfl rfl (i64w (by omega))) rfl ?_
            refine DL_ogyes rfl rfl rfl (o_call Try.func19 rfl rfl (rleft g A n c l _ _ w14 (S14.get 0 rfl) hp2) rfl rfl ?_)
            rintro e15 w15 ⟨v15, rfl, l15, rfl⟩
            refine ⟨_, rfl, (Like.trans q14 l15), ?_⟩
            have S15 := S14.like l15
            have q15 := (Like.trans q14 l15)
            refine DL_gyes rfl rfl rfl (y_eql rfl rfl) rfl ?_
            refine DL_y rfl ((by first | exact y_pickT rfl rfl | exact y_pickF rfl rfl)) rfl ?_
            refine DL_y rfl (y_move rfl) rfl ?_
            refine DL_split 98 rfl (fun h98 => ?_) (fun h98 => ?_)
            ·
              refine DL_gyes rfl rfl rfl (y_move rfl) rfl ?_
              refine DL_gyes rfl rfl rfl (y_move rfl) rfl ?_
              refine DL_ogyes rfl rfl rfl (o_call Try.func28 rfl rfl (rend g A n c l _ _ w15 (S15.get 0 rfl) hp2) rfl rfl ?_)
              rintro e16 w16 ⟨v16, rfl, l16, rfl⟩
              refine ⟨_, rfl, (Like.trans q15 l16), ?_⟩
              have S16 := S15.like l16
              have q16 := (Like.trans q15 l16)
              refine DL_ogyes rfl rfl rfl (o_call Try.func44 rfl rfl (xend g2 B nb cb l _ _ w16 (S16.get 1 rfl) (S16.rdM hb hM) hp2 (by omega)) rfl rfl ?_)
              rintro e17 w17 ⟨v17, rfl, l17, rfl⟩
              refine ⟨_, rfl, (Like.trans q16 l17), ?_⟩
              have S17 := S16.like l17
              have q17 := (Like.trans q16 l17)
              refine DL_gyes rfl rfl rfl (y_eql rfl rfl) rfl ?_
              refine DL_y rfl ((by first | exact y_pickT rfl rfl | exact y_pickF rfl rfl)) rfl ?_
              refine DL_y rfl (y_assign rfl) rfl ?_
              refine DL_nil ?_
              refine hK8 _ _ ?_
              refine T_ret ?_
              repeat (first | with_reducible refine up_then ?_ | with_reducible refine up_in ?_)
              refine ret1 rfl rfl ?_
              exact ⟨_, rfl, by rw [show nb = n by omega]; exact congrArg Value.bool (decide_eq_true rfl), _, _, hp2, S17.turned2 0 1 rfl rfl⟩
            ·
              exact absurd (by omega) h98
          ·
            exact absurd rfl h83
        ·
          exact absurd rfl h74
      ·
        exact absurd rfl h65
    ·
      refine T_seq fun K9 hK9 => ?_
      refine T_region ?_
      refine L_y (y_eql rfl rfl) rfl ?_
      refine L_y (y_assign rfl) rfl ?_
      refine L_nil ?_
      refine hK9 _ _ ?_
      refine T_cond rfl (fun h35 => ?_) (fun h35 => ?_)
      ·
        have hp2 : rwP l p q 8 ≤ l.length := rw_at l p q _ hp
        refine T_region ?_
        refine L_y (y_move rfl) rfl ?_
        refine L_o (o_call Try.func26 rfl rfl (ru64 g A n c l p q w1 (S1.get 0 rfl) hp (by omega)) rfl rfl ?_)
        rintro e18 w18 ⟨v18, rfl, rfl, T18⟩
        refine ⟨_, rfl, ?_⟩
        have S18 := S1.turn 0 rfl T18
        refine L_y (y_move rfl) rfl ?_
        refine L_o (o_call Try.func40 rfl rfl (xbig g2 B nb cb l p q 8 w18 (S18.get 1 rfl) (S18.rdM hb hM) hp (by omega) hbg (by omega)) rfl rfl ?_)
        rintro e19 w19 ⟨v19, rfl, rfl, T19⟩
        refine ⟨_, rfl, ?_⟩
        have S19 := S18.turn 1 rfl T19
        refine L_y (y_eql rfl rfl) rfl ?_
        refine L_y (y_assign rfl) rfl ?_
        refine L_nil ?_
        refine hK3 _ _ ?_
        refine T_seq fun K10 hK10 => ?_
        refine T_drawnL [(0, true), (1, true), (2, true), (4, true), (5, true), (6, true), (7, true), (3, false), (8, true), (9, true), (10, true), (11, true), (13, true), (14, true), (15, true), (16, true), (12, false), (17, true), (18, true), (19, true), (20, true), (22, true), (23, true), (24, true), (25, true), (26, true), (27, true), (28, true), (29, true), (30, true), (31, true), (21, false), (32, true), (33, true), (34, true), (35, true), (37, true), (36, false), (38, false), (39, true), (40, true), (41, true)] hmix (by kernel_rfl) fun w20 l20 => ?_
        have S20 := S19.like l20
        refine DL_y rfl (y_move rfl) rfl ?_
        refine DL_y rfl (y_move rfl) rfl ?_
        refine DL_split 65 rfl (fun h65 => ?_) (fun h65 => ?_)
        ·
          refine DL_gyes rfl rfl rfl (y_move rfl) rfl ?_
          refine DL_gyes rfl rfl rfl (y_move rfl) rfl ?_
          refine DL_gyes rfl rfl rfl (y_nilp rfl) rfl ?_
          refine DL_gyes rfl rfl rfl (y_fieldA 2 Try.underlying48 rfl sz3 rfl rfl rfl) rfl ?_
          refine DL_gyes rfl rfl rfl (y_ldc Try.underlying3 rfl rfl (((S20.blk 1 rfl).cell _).trans (by rfl))) rfl ?_
          refine DL_ogyes rfl rfl rfl (o_call Try.func18 rfl rfl (rerr g A n c l _ _ w20 (S20.get 0 rfl) hp2) rfl rfl ?_)
          rintro e21 w21 ⟨v21, rfl, l21, rfl⟩
          refine ⟨_, rfl, l21, ?_⟩
          have S21 := S20.like l21
          have q21 := l21
          refine DL_gyes rfl rfl rfl (y_eql rfl rfl) rfl ?_
          refine DL_y rfl ((by first | exact y_pickT rfl rfl | exact y_pickF rfl rfl)) rfl ?_
          refine DL_y rfl (y_move rfl) rfl ?_
          refine DL_split 74 rfl (fun h74 => ?_) (fun h74 => ?_)
          ·
            refine DL_gyes rfl rfl rfl (y_move rfl) rfl ?_
            refine DL_gyes rfl rfl rfl (y_move rfl) rfl ?_
            refine DL_gyes rfl rfl rfl (y_nilp rfl) rfl ?_
            refine DL_gyes rfl rfl rfl (y_fieldA 1 Try.underlying48 rfl sz3 rfl rfl rfl) rfl ?_
            refine DL_gyes rfl rfl rfl (y_ldc Try.underlying3 rfl rfl (((S20.blk 1 rfl).cell _).trans (by rfl))) rfl ?_
            refine DL_ogyes rfl rfl rfl (o_call Try.func22 rfl rfl (rat g A n c l _ _ w21 (S21.get 0 rfl) hp2) rfl rfl ?_)
            rintro e22 w22 ⟨v22, rfl, l22, rfl⟩
            refine ⟨_, rfl, (Like.trans q21 l22), ?_⟩
            have S22 := S21.like l22
            have q22 := (Like.trans q21 l22)
            refine DL_gyes rfl rfl rfl (y_eql rfl rfl) rfl ?_
            refine DL_y rfl ((by first | exact y_pickT rfl rfl | exact y_pickF rfl rfl)) rfl ?_
            refine DL_y rfl (y_move rfl) rfl ?_
            refine DL_split 83 rfl (fun h83 => ?_) (fun h83 => ?_)
            ·
              refine DL_gyes rfl rfl rfl (y_move rfl) rfl ?_
              refine DL_gyes rfl rfl rfl (y_move rfl) rfl ?_
              refine DL_gyes rfl rfl rfl (y_nilp rfl) rfl ?_
              refine DL_gyes rfl rfl rfl (y_fieldA 0 Try.underlying48 rfl sz25 rfl rfl rfl) rfl ?_
              refine DL_gyes rfl rfl rfl (y_ldc Try.underlying25 rfl rfl (((S20.blk 1 rfl).cell _).trans (by rfl))) rfl ?_
              refine DL_gyes rfl rfl rfl (y_len Try.underlying25 rfl) rfl ?_
              refine DL_gyes rfl rfl rfl (y_move rfl) rfl ?_
              refine DL_gyes rfl rfl rfl (y_nilp rfl) rfl ?_
              refine DL_gyes rfl rfl rfl (y_fieldA 1 Try.underlying48 rfl sz3 rfl rfl rfl) rfl ?_
              refine DL_gyes rfl rfl rfl (y_ldc Try.underlying3 rfl rfl (((S20.blk 1 rfl).cell _).trans (by rfl))) rfl ?_
              refine DL_gyes rfl rfl rfl (y_sub rfl rfl (i64w (by omega))) rfl ?_
              refine DL_ogyes rfl rfl rfl (o_call Try.func19 rfl rfl (rleft g A n c l _ _ w22 (S22.get 0 rfl) hp2) rfl rfl ?_)
              rintro e23 w23 ⟨v23, rfl, l23, rfl⟩
              refine ⟨_, rfl, (Like.trans q22 l23), ?_⟩
              have S23 := S22.like l23
              have q23 := (Like.trans q22 l23)
              refine DL_gyes rfl rfl rfl (y_eql rfl rfl) rfl ?_
              refine DL_y rfl ((by first | exact y_pickT rfl rfl | exact y_pickF rfl rfl)) rfl ?_
              refine DL_y rfl (y_move rfl) rfl ?_
              refine DL_split 98 rfl (fun h98 => ?_) (fun h98 => ?_)
              ·
                refine DL_gyes rfl rfl rfl (y_move rfl) rfl ?_
                refine DL_gyes rfl rfl rfl (y_move rfl) rfl ?_
                refine DL_ogyes rfl rfl rfl (o_call Try.func28 rfl rfl (rend g A n c l _ _ w23 (S23.get 0 rfl) hp2) rfl rfl ?_)
                rintro e24 w24 ⟨v24, rfl, l24, rfl⟩
                refine ⟨_, rfl, (Like.trans q23 l24), ?_⟩
                have S24 := S23.like l24
                have q24 := (Like.trans q23 l24)
                refine DL_ogyes rfl rfl rfl (o_call Try.func44 rfl rfl (xend g2 B nb cb l _ _ w24 (S24.get 1 rfl) (S24.rdM hb hM) hp2 (by omega)) rfl rfl ?_)
                rintro e25 w25 ⟨v25, rfl, l25, rfl⟩
                refine ⟨_, rfl, (Like.trans q24 l25), ?_⟩
                have S25 := S24.like l25
                have q25 := (Like.trans q24 l25)
                refine DL_gyes rfl rfl rfl (y_eql rfl rfl) rfl ?_
                refine DL_y rfl ((by first | exact y_pickT rfl rfl | exact y_pickF rfl rfl)) rfl ?_
                refine DL_y rfl (y_assign rfl) rfl ?_
                refine DL_nil ?_
                refine hK10 _ _ ?_
                refine T_ret ?_
                repeat (first | with_reducible refine up_then ?_ | with_reducible refine up_in ?_)
                refine ret1 rfl rfl ?_
                exact ⟨_, rfl, by rw [show nb = n by omega]; exact congrArg Value.bool (decide_eq_true rfl), _, _, hp2, S25.turned2 0 1 rfl rfl⟩
              ·
                exact absurd (by omega) h98
            ·
              exact absurd rfl h83
          ·
            exact absurd rfl h74
        ·
          exact absurd rfl h65
      ·
        refine T_seq fun K11 hK11 => ?_
        refine T_region ?_
        refine L_y (y_eql rfl rfl) rfl ?_
        refine L_y (y_assign rfl) rfl ?_
        refine L_nil ?_
        refine hK11 _ _ ?_
        refine T_cond rfl (fun h42 => ?_) (fun h42 => ?_)
        ·
          have hp2 : (vaN l p q tx).2.1 ≤ l.length := vaN_le l p q _ hp
          refine T_drawn (fun w => Blk w b1 51 #[.int .i64 td, .int .u64 (tx : Int), .int .i64 tm]) [(0, true), (1, true), (2, true), (4, true), (5, true), (6, true), (3, false), (7, false), (8, true), (9, true)] hmix (by kernel_rfl) (fun w l => (S1.like l).blk 2 rfl) fun w26 l26 => ?_
          have S26 := S1.like l26
          refine DL_y rfl (y_move rfl) rfl ?_
          refine DL_y rfl (y_fieldA 1 Try.underlying51 rfl sz27 rfl rfl rfl) rfl ?_
          refine DL_y rfl (y_ldS Try.underlying27 rfl rfl (fun w h => (h.cell _).trans (by rfl))) rfl ?_
          refine DL_y rfl (y_move rfl) rfl ?_
          refine DL_y rfl (y_fieldA 1 Try.underlying51 rfl sz27 rfl rfl rfl) rfl ?_
          refine DL_y rfl (y_ldS Try.underlying27 rfl rfl (fun w h => (h.cell _).trans (by rfl))) rfl ?_
          refine DL_o rfl (o_call Try.func16 rfl rfl (rvar g A n c l p q tx w26 (S26.get 0 rfl) hp (by omega)) rfl rfl ?_)
          rintro e27 w27 ⟨v27, rfl, rfl, T27⟩
          refine ⟨_, rfl, ?_⟩
          have S27 := S26.turn 0 rfl T27
          refine ⟨S27.blk 2 rfl, ?_⟩
          refine DL_o rfl (o_call Try.func41 rfl rfl (xvar g2 B nb cb l p q tx w27 (S27.get 1 rfl) (S27.rdM hb hM) hp (by omega) hbg) rfl rfl ?_)
          rintro e28 w28 ⟨v28, rfl, rfl, T28⟩
          refine ⟨_, rfl, ?_⟩
          have S28 := S27.turn 1 rfl T28
          refine ⟨S28.blk 2 rfl, ?_⟩
          refine DL_y rfl (y_eql rfl rfl) rfl ?_
          refine DL_y rfl (y_assign rfl) rfl ?_
          refine DL_nil ?_
          refine hK3 _ _ ?_
          refine T_seq fun K12 hK12 => ?_
          refine T_drawnL [(0, true), (1, true), (2, true), (4, true), (5, true), (6, true), (7, true), (3, false), (8, true), (9, true), (10, true), (11, true), (13, true), (14, true), (15, true), (16, true), (12, false), (17, true), (18, true), (19, true), (20, true), (22, true), (23, true), (24, true), (25, true), (26, true), (27, true), (28, true), (29, true), (30, true), (31, true), (21, false), (32, true), (33, true), (34, true), (35, true), (37, true), (36, false), (38, false), (39, true), (40, true), (41, true)] hmix (by kernel_rfl) fun w29 l29 => ?_
          have S29 := S28.like l29
          refine DL_y rfl (y_move rfl) rfl ?_
          refine DL_y rfl (y_move rfl) rfl ?_
          refine DL_split 65 rfl (fun h65 => ?_) (fun h65 => ?_)
          ·
            refine DL_gyes rfl rfl rfl (y_move rfl) rfl ?_
            refine DL_gyes rfl rfl rfl (y_move rfl) rfl ?_
            refine DL_gyes rfl rfl rfl (y_nilp rfl) rfl ?_
            refine DL_gyes rfl rfl rfl (y_fieldA 2 Try.underlying48 rfl sz3 rfl rfl rfl) rfl ?_
            refine DL_gyes rfl rfl rfl (y_ldc Try.underlying3 rfl rfl (((S29.blk 1 rfl).cell _).trans (by rfl))) rfl ?_
            refine DL_ogyes rfl rfl rfl (o_call Try.func18 rfl rfl (rerr g A n c l _ _ w29 (S29.get 0 rfl) hp2) rfl rfl ?_)
            rintro e30 w30 ⟨v30, rfl, l30, rfl⟩
            refine ⟨_, rfl, l30, ?_⟩
            have S30 := S29.like l30
            have q30 := l30
            refine DL_gyes rfl rfl rfl (y_eql rfl rfl) rfl ?_
            refine DL_y rfl ((by first | exact y_pickT rfl rfl | exact y_pickF rfl rfl)) rfl ?_
            refine DL_y rfl (y_move rfl) rfl ?_
            refine DL_split 74 rfl (fun h74 => ?_) (fun h74 => ?_)
            ·
              refine DL_gyes rfl rfl rfl (y_move rfl) rfl ?_
              refine DL_gyes rfl rfl rfl (y_move rfl) rfl ?_
              refine DL_gyes rfl rfl rfl (y_nilp rfl) rfl ?_
              refine DL_gyes rfl rfl rfl (y_fieldA 1 Try.underlying48 rfl sz3 rfl rfl rfl) rfl ?_
              refine DL_gyes rfl rfl rfl (y_ldc Try.underlying3 rfl rfl (((S29.blk 1 rfl).cell _).trans (by rfl))) rfl ?_
              refine DL_ogyes rfl rfl rfl (o_call Try.func22 rfl rfl (rat g A n c l _ _ w30 (S30.get 0 rfl) hp2) rfl rfl ?_)
              rintro e31 w31 ⟨v31, rfl, l31, rfl⟩
              refine ⟨_, rfl, (Like.trans q30 l31), ?_⟩
              have S31 := S30.like l31
              have q31 := (Like.trans q30 l31)
              refine DL_gyes rfl rfl rfl (y_eql rfl rfl) rfl ?_
              refine DL_y rfl ((by first | exact y_pickT rfl rfl | exact y_pickF rfl rfl)) rfl ?_
              refine DL_y rfl (y_move rfl) rfl ?_
              refine DL_split 83 rfl (fun h83 => ?_) (fun h83 => ?_)
              ·
                refine DL_gyes rfl rfl rfl (y_move rfl) rfl ?_
                refine DL_gyes rfl rfl rfl (y_move rfl) rfl ?_
                refine DL_gyes rfl rfl rfl (y_nilp rfl) rfl ?_
                refine DL_gyes rfl rfl rfl (y_fieldA 0 Try.underlying48 rfl sz25 rfl rfl rfl) rfl ?_
                refine DL_gyes rfl rfl rfl (y_ldc Try.underlying25 rfl rfl (((S29.blk 1 rfl).cell _).trans (by rfl))) rfl ?_
                refine DL_gyes rfl rfl rfl (y_len Try.underlying25 rfl) rfl ?_
                refine DL_gyes rfl rfl rfl (y_move rfl) rfl ?_
                refine DL_gyes rfl rfl rfl (y_nilp rfl) rfl ?_
                refine DL_gyes rfl rfl rfl (y_fieldA 1 Try.underlying48 rfl sz3 rfl rfl rfl) rfl ?_
                refine DL_gyes rfl rfl rfl (y_ldc Try.underlying3 rfl rfl (((S29.blk 1 rfl).cell _).trans (by rfl))) rfl ?_
                refine DL_gyes rfl rfl rfl (y_sub rfl rfl (i64w (by omega))) rfl ?_
                refine DL_ogyes rfl rfl rfl (o_call Try.func19 rfl rfl (rleft g A n c l _ _ w31 (S31.get 0 rfl) hp2) rfl rfl ?_)
                rintro e32 w32 ⟨v32, rfl, l32, rfl⟩
                refine ⟨_, rfl, (Like.trans q31 l32), ?_⟩
                have S32 := S31.like l32
                have q32 := (Like.trans q31 l32)
                refine DL_gyes rfl rfl rfl (y_eql rfl rfl) rfl ?_
                refine DL_y rfl ((by first | exact y_pickT rfl rfl | exact y_pickF rfl rfl)) rfl ?_
                refine DL_y rfl (y_move rfl) rfl ?_
                refine DL_split 98 rfl (fun h98 => ?_) (fun h98 => ?_)
                ·
                  refine DL_gyes rfl rfl rfl (y_move rfl) rfl ?_
                  refine DL_gyes rfl rfl rfl (y_move rfl) rfl ?_
                  refine DL_ogyes rfl rfl rfl (o_call Try.func28 rfl rfl (rend g A n c l _ _ w32 (S32.get 0 rfl) hp2) rfl rfl ?_)
                  rintro e33 w33 ⟨v33, rfl, l33, rfl⟩
                  refine ⟨_, rfl, (Like.trans q32 l33), ?_⟩
                  have S33 := S32.like l33
                  have q33 := (Like.trans q32 l33)
                  refine DL_ogyes rfl rfl rfl (o_call Try.func44 rfl rfl (xend g2 B nb cb l _ _ w33 (S33.get 1 rfl) (S33.rdM hb hM) hp2 (by omega)) rfl rfl ?_)
                  rintro e34 w34 ⟨v34, rfl, l34, rfl⟩
                  refine ⟨_, rfl, (Like.trans q33 l34), ?_⟩
                  have S34 := S33.like l34
                  have q34 := (Like.trans q33 l34)
                  refine DL_gyes rfl rfl rfl (y_eql rfl rfl) rfl ?_
                  refine DL_y rfl ((by first | exact y_pickT rfl rfl | exact y_pickF rfl rfl)) rfl ?_
                  refine DL_y rfl (y_assign rfl) rfl ?_
                  refine DL_nil ?_
                  refine hK12 _ _ ?_
                  refine T_ret ?_
                  repeat (first | with_reducible refine up_then ?_ | with_reducible refine up_in ?_)
                  refine ret1 rfl rfl ?_
                  exact ⟨_, rfl, by rw [show nb = n by omega]; exact congrArg Value.bool (decide_eq_true rfl), _, _, hp2, S34.turned2 0 1 rfl rfl⟩
                ·
                  exact absurd (by omega) h98
              ·
                exact absurd rfl h83
            ·
              exact absurd rfl h74
          ·
            exact absurd rfl h65
        ·
          refine T_seq fun K13 hK13 => ?_
          refine T_region ?_
          refine L_y (y_eql rfl rfl) rfl ?_
          refine L_y (y_assign rfl) rfl ?_
          refine L_nil ?_
          refine hK13 _ _ ?_
          refine T_cond rfl (fun h53 => ?_) (fun h53 => ?_)
          ·
            have hp2 : (txN l p q tm).2.1 ≤ l.length := txN_le l p q _ hp
            refine T_drawn (fun w => Blk w b1 51 #[.int .i64 td, .int .u64 (tx : Int), .int .i64 tm]) [(0, true), (1, true), (2, true), (4, true), (5, true), (6, true), (3, false), (7, false), (8, true), (9, true)] hmix (by kernel_rfl) (fun w l => (S1.like l).blk 2 rfl) fun w35 l35 => ?_
            have S35 := S1.like l35
            refine DL_y rfl (y_move rfl) rfl ?_
            refine DL_y rfl (y_fieldA 2 Try.underlying51 rfl sz3 rfl rfl rfl) rfl ?_
            refine DL_y rfl (y_ldS Try.underlying3 rfl rfl (fun w h => (h.cell _).trans (by rfl))) rfl ?_
            refine DL_y rfl (y_move rfl) rfl ?_
            refine DL_y rfl (y_fieldA 2 Try.underlying51 rfl sz3 rfl rfl rfl) rfl ?_
            refine DL_y rfl (y_ldS Try.underlying3 rfl rfl (fun w h => (h.cell _).trans (by rfl))) rfl ?_
            refine DL_o rfl (o_call Try.func17 rfl rfl (rtext g A n c l p q tm w35 (S35.get 0 rfl) hp (by omega) htm) rfl rfl ?_)
            rintro e36 w36 ⟨v36, rfl, rfl, T36⟩
            refine ⟨_, rfl, ?_⟩
            have S36 := S35.turn 0 rfl T36
            refine ⟨S36.blk 2 rfl, ?_⟩
            refine DL_o rfl (o_call Try.func42 rfl rfl (xtext g2 B nb cb l p q tm w36 (S36.get 1 rfl) (S36.rdM hb hM) hp (by omega) hbg htm) rfl rfl ?_)
            rintro e37 w37 ⟨v37, rfl, rfl, T37⟩
            refine ⟨_, rfl, ?_⟩
            have S37 := S36.turn 1 rfl T37
            refine ⟨S37.blk 2 rfl, ?_⟩
            refine DL_y rfl (y_seql rfl rfl) rfl ?_
            refine DL_y rfl (y_assign rfl) rfl ?_
            refine DL_nil ?_
            refine hK3 _ _ ?_
            refine T_seq fun K14 hK14 => ?_
            refine T_drawnL [(0, true), (1, true), (2, true), (4, true), (5, true), (6, true), (7, true), (3, false), (8, true), (9, true), (10, true), (11, true), (13, true), (14, true), (15, true), (16, true), (12, false), (17, true), (18, true), (19, true), (20, true), (22, true), (23, true), (24, true), (25, true), (26, true), (27, true), (28, true), (29, true), (30, true), (31, true), (21, false), (32, true), (33, true), (34, true), (35, true), (37, true), (36, false), (38, false), (39, true), (40, true), (41, true)] hmix (by kernel_rfl) fun w38 l38 => ?_
            have S38 := S37.like l38
            refine DL_y rfl (y_move rfl) rfl ?_
            refine DL_y rfl (y_move rfl) rfl ?_
            refine DL_split 65 rfl (fun h65 => ?_) (fun h65 => ?_)
            ·
              refine DL_gyes rfl rfl rfl (y_move rfl) rfl ?_
              refine DL_gyes rfl rfl rfl (y_move rfl) rfl ?_
              refine DL_gyes rfl rfl rfl (y_nilp rfl) rfl ?_
              refine DL_gyes rfl rfl rfl (y_fieldA 2 Try.underlying48 rfl sz3 rfl rfl rfl) rfl ?_
              refine DL_gyes rfl rfl rfl (y_ldc Try.underlying3 rfl rfl (((S38.blk 1 rfl).cell _).trans (by rfl))) rfl ?_
              refine DL_ogyes rfl rfl rfl (o_call Try.func18 rfl rfl (rerr g A n c l _ _ w38 (S38.get 0 rfl) hp2) rfl rfl ?_)
              rintro e39 w39 ⟨v39, rfl, l39, rfl⟩
              refine ⟨_, rfl, l39, ?_⟩
              have S39 := S38.like l39
              have q39 := l39
              refine DL_gyes rfl rfl rfl (y_eql rfl rfl) rfl ?_
              refine DL_y rfl ((by first | exact y_pickT rfl rfl | exact y_pickF rfl rfl)) rfl ?_
              refine DL_y rfl (y_move rfl) rfl ?_
              refine DL_split 74 rfl (fun h74 => ?_) (fun h74 => ?_)
              ·
                refine DL_gyes rfl rfl rfl (y_move rfl) rfl ?_
                refine DL_gyes rfl rfl rfl (y_move rfl) rfl ?_
                refine DL_gyes rfl rfl rfl (y_nilp rfl) rfl ?_
                refine DL_gyes rfl rfl rfl (y_fieldA 1 Try.underlying48 rfl sz3 rfl rfl rfl) rfl ?_
                refine DL_gyes rfl rfl rfl (y_ldc Try.underlying3 rfl rfl (((S38.blk 1 rfl).cell _).trans (by rfl))) rfl ?_
                refine DL_ogyes rfl rfl rfl (o_call Try.func22 rfl rfl (rat g A n c l _ _ w39 (S39.get 0 rfl) hp2) rfl rfl ?_)
                rintro e40 w40 ⟨v40, rfl, l40, rfl⟩
                refine ⟨_, rfl, (Like.trans q39 l40), ?_⟩
                have S40 := S39.like l40
                have q40 := (Like.trans q39 l40)
                refine DL_gyes rfl rfl rfl (y_eql rfl rfl) rfl ?_
                refine DL_y rfl ((by first | exact y_pickT rfl rfl | exact y_pickF rfl rfl)) rfl ?_
                refine DL_y rfl (y_move rfl) rfl ?_
                refine DL_split 83 rfl (fun h83 => ?_) (fun h83 => ?_)
                ·
                  refine DL_gyes rfl rfl rfl (y_move rfl) rfl ?_
                  refine DL_gyes rfl rfl rfl (y_move rfl) rfl ?_
                  refine DL_gyes rfl rfl rfl (y_nilp rfl) rfl ?_
                  refine DL_gyes rfl rfl rfl (y_fieldA 0 Try.underlying48 rfl sz25 rfl rfl rfl) rfl ?_
                  refine DL_gyes rfl rfl rfl (y_ldc Try.underlying25 rfl rfl (((S38.blk 1 rfl).cell _).trans (by rfl))) rfl ?_
                  refine DL_gyes rfl rfl rfl (y_len Try.underlying25 rfl) rfl ?_
                  refine DL_gyes rfl rfl rfl (y_move rfl) rfl ?_
                  refine DL_gyes rfl rfl rfl (y_nilp rfl) rfl ?_
                  refine DL_gyes rfl rfl rfl (y_fieldA 1 Try.underlying48 rfl sz3 rfl rfl rfl) rfl ?_
                  refine DL_gyes rfl rfl rfl (y_ldc Try.underlying3 rfl rfl (((S38.blk 1 rfl).cell _).trans (by rfl))) rfl ?_
                  refine DL_gyes rfl rfl rfl (y_sub rfl rfl (i64w (by omega))) rfl ?_
                  refine DL_ogyes rfl rfl rfl (o_call Try.func19 rfl rfl (rleft g A n c l _ _ w40 (S40.get 0 rfl) hp2) rfl rfl ?_)
                  rintro e41 w41 ⟨v41, rfl, l41, rfl⟩
                  refine ⟨_, rfl, (Like.trans q40 l41), ?_⟩
                  have S41 := S40.like l41
                  have q41 := (Like.trans q40 l41)
                  refine DL_gyes rfl rfl rfl (y_eql rfl rfl) rfl ?_
                  refine DL_y rfl ((by first | exact y_pickT rfl rfl | exact y_pickF rfl rfl)) rfl ?_
                  refine DL_y rfl (y_move rfl) rfl ?_
                  refine DL_split 98 rfl (fun h98 => ?_) (fun h98 => ?_)
                  ·
                    refine DL_gyes rfl rfl rfl (y_move rfl) rfl ?_
                    refine DL_gyes rfl rfl rfl (y_move rfl) rfl ?_
                    refine DL_ogyes rfl rfl rfl (o_call Try.func28 rfl rfl (rend g A n c l _ _ w41 (S41.get 0 rfl) hp2) rfl rfl ?_)
                    rintro e42 w42 ⟨v42, rfl, l42, rfl⟩
                    refine ⟨_, rfl, (Like.trans q41 l42), ?_⟩
                    have S42 := S41.like l42
                    have q42 := (Like.trans q41 l42)
                    refine DL_ogyes rfl rfl rfl (o_call Try.func44 rfl rfl (xend g2 B nb cb l _ _ w42 (S42.get 1 rfl) (S42.rdM hb hM) hp2 (by omega)) rfl rfl ?_)
                    rintro e43 w43 ⟨v43, rfl, l43, rfl⟩
                    refine ⟨_, rfl, (Like.trans q42 l43), ?_⟩
                    have S43 := S42.like l43
                    have q43 := (Like.trans q42 l43)
                    refine DL_gyes rfl rfl rfl (y_eql rfl rfl) rfl ?_
                    refine DL_y rfl ((by first | exact y_pickT rfl rfl | exact y_pickF rfl rfl)) rfl ?_
                    refine DL_y rfl (y_assign rfl) rfl ?_
                    refine DL_nil ?_
                    refine hK14 _ _ ?_
                    refine T_ret ?_
                    repeat (first | with_reducible refine up_then ?_ | with_reducible refine up_in ?_)
                    refine ret1 rfl rfl ?_
                    exact ⟨_, rfl, by rw [show nb = n by omega]; exact congrArg Value.bool (decide_eq_true rfl), _, _, hp2, S43.turned2 0 1 rfl rfl⟩
                  ·
                    exact absurd (by omega) h98
                ·
                  exact absurd rfl h83
              ·
                exact absurd rfl h74
            ·
              exact absurd rfl h65
          ·
            have hp2 : rnP l p q tm ≤ l.length := rn_at l p q _ hp
            refine T_drawn (fun w => Blk w b1 51 #[.int .i64 td, .int .u64 (tx : Int), .int .i64 tm]) [(0, true), (1, true), (2, true), (4, true), (5, true), (6, true), (3, false), (7, false), (8, false), (9, true)] hmix (by kernel_rfl) (fun w l => (S1.like l).blk 2 rfl) fun w44 l44 => ?_
            have S44 := S1.like l44
            refine DL_y rfl (y_move rfl) rfl ?_
            refine DL_y rfl (y_fieldA 2 Try.underlying51 rfl sz3 rfl rfl rfl) rfl ?_
            refine DL_y rfl (y_ldS Try.underlying3 rfl rfl (fun w h => (h.cell _).trans (by rfl))) rfl ?_
            refine DL_y rfl (y_move rfl) rfl ?_
            refine DL_y rfl (y_fieldA 2 Try.underlying51 rfl sz3 rfl rfl rfl) rfl ?_
            refine DL_y rfl (y_ldS Try.underlying3 rfl rfl (fun w h => (h.cell _).trans (by rfl))) rfl ?_
            refine DL_o rfl (o_call Try.func27 rfl rfl (rraw g A n c l p q tm w44 (S44.get 0 rfl) hp (by omega) htm) rfl rfl ?_)
            rintro e45 w45 ⟨v45, rfl, T45, B45, d45, rfl, hr45, hd45⟩
            refine ⟨_, rfl, ?_⟩
            have S45 := S44.turn 0 rfl T45
            have S46 := St.newT S44 0 rfl T45 (fun i hi => hi) hr45 (fun i hi => ⟨hd45 i hi, (World.ownsRow.lt hr45 i hi).2⟩)
            refine ⟨S46.blk 2 rfl, ?_⟩
            refine DL_o rfl (o_call Try.func43 rfl rfl (xraw g2 B nb cb l p q tm w45 (S46.get 1 rfl) (S46.rdM hb hM) hp (by omega) hbg htm) rfl rfl ?_)
            rintro e47 w47 ⟨v47, rfl, T47, B47, d47, rfl, hr47, hd47⟩
            refine ⟨_, rfl, ?_⟩
            have S47 := S46.turn 1 rfl T47
            have S48 := St.newT S46 1 rfl T47 (fun i hi => hi) hr47 (fun i hi => ⟨hd47 i hi, (World.ownsRow.lt hr47 i hi).2⟩)
            refine ⟨S48.blk 2 rfl, ?_⟩
            refine DL_o rfl (o_call Try.func12 rfl rfl (same _ _ _ _ _ _ _ _ w47 (rs_of_row (S48.get 3 rfl)) (rs_of_row (S48.get 4 rfl))) rfl rfl ?_)
            rintro e49 w49 ⟨v49, rfl, l49, rfl⟩
            refine ⟨_, rfl, ?_⟩
            have S49 := S48.like l49
            refine ⟨S49.blk 2 rfl, ?_⟩
            refine DL_y rfl (y_assign rfl) rfl ?_
            refine DL_nil ?_
            refine hK3 _ _ ?_
            refine T_seq fun K15 hK15 => ?_
            refine T_drawnL [(0, true), (1, true), (2, true), (4, true), (5, true), (6, true), (7, true), (3, false), (8, true), (9, true), (10, true), (11, true), (13, true), (14, true), (15, true), (16, true), (12, false), (17, true), (18, true), (19, true), (20, true), (22, true), (23, true), (24, true), (25, true), (26, true), (27, true), (28, true), (29, true), (30, true), (31, true), (21, false), (32, true), (33, true), (34, true), (35, true), (37, true), (36, false), (38, false), (39, true), (40, true), (41, true)] hmix (by kernel_rfl) fun w50 l50 => ?_
            have S50 := S49.like l50
            refine DL_y rfl (y_move rfl) rfl ?_
            refine DL_y rfl (y_move rfl) rfl ?_
            refine DL_split 65 rfl (fun h65 => ?_) (fun h65 => ?_)
            ·
              refine DL_gyes rfl rfl rfl (y_move rfl) rfl ?_
              refine DL_gyes rfl rfl rfl (y_move rfl) rfl ?_
              refine DL_gyes rfl rfl rfl (y_nilp rfl) rfl ?_
              refine DL_gyes rfl rfl rfl (y_fieldA 2 Try.underlying48 rfl sz3 rfl rfl rfl) rfl ?_
              refine DL_gyes rfl rfl rfl (y_ldc Try.underlying3 rfl rfl (((S50.blk 1 rfl).cell _).trans (by rfl))) rfl ?_
              refine DL_ogyes rfl rfl rfl (o_call Try.func18 rfl rfl (rerr g A n c l _ _ w50 (S50.get 0 rfl) hp2) rfl rfl ?_)
              rintro e51 w51 ⟨v51, rfl, l51, rfl⟩
              refine ⟨_, rfl, l51, ?_⟩
              have S51 := S50.like l51
              have q51 := l51
              refine DL_gyes rfl rfl rfl (y_eql rfl rfl) rfl ?_
              refine DL_y rfl ((by first | exact y_pickT rfl rfl | exact y_pickF rfl rfl)) rfl ?_
              refine DL_y rfl (y_move rfl) rfl ?_
              refine DL_split 74 rfl (fun h74 => ?_) (fun h74 => ?_)
              ·
                refine DL_gyes rfl rfl rfl (y_move rfl) rfl ?_
                refine DL_gyes rfl rfl rfl (y_move rfl) rfl ?_
                refine DL_gyes rfl rfl rfl (y_nilp rfl) rfl ?_
                refine DL_gyes rfl rfl rfl (y_fieldA 1 Try.underlying48 rfl sz3 rfl rfl rfl) rfl ?_
                refine DL_gyes rfl rfl rfl (y_ldc Try.underlying3 rfl rfl (((S50.blk 1 rfl).cell _).trans (by rfl))) rfl ?_
                refine DL_ogyes rfl rfl rfl (o_call Try.func22 rfl rfl (rat g A n c l _ _ w51 (S51.get 0 rfl) hp2) rfl rfl ?_)
                rintro e52 w52 ⟨v52, rfl, l52, rfl⟩
                refine ⟨_, rfl, (Like.trans q51 l52), ?_⟩
                have S52 := S51.like l52
                have q52 := (Like.trans q51 l52)
                refine DL_gyes rfl rfl rfl (y_eql rfl rfl) rfl ?_
                refine DL_y rfl ((by first | exact y_pickT rfl rfl | exact y_pickF rfl rfl)) rfl ?_
                refine DL_y rfl (y_move rfl) rfl ?_
                refine DL_split 83 rfl (fun h83 => ?_) (fun h83 => ?_)
                ·
                  refine DL_gyes rfl rfl rfl (y_move rfl) rfl ?_
                  refine DL_gyes rfl rfl rfl (y_move rfl) rfl ?_
                  refine DL_gyes rfl rfl rfl (y_nilp rfl) rfl ?_
                  refine DL_gyes rfl rfl rfl (y_fieldA 0 Try.underlying48 rfl sz25 rfl rfl rfl) rfl ?_
                  refine DL_gyes rfl rfl rfl (y_ldc Try.underlying25 rfl rfl (((S50.blk 1 rfl).cell _).trans (by rfl))) rfl ?_
                  refine DL_gyes rfl rfl rfl (y_len Try.underlying25 rfl) rfl ?_
                  refine DL_gyes rfl rfl rfl (y_move rfl) rfl ?_
                  refine DL_gyes rfl rfl rfl (y_nilp rfl) rfl ?_
                  refine DL_gyes rfl rfl rfl (y_fieldA 1 Try.underlying48 rfl sz3 rfl rfl rfl) rfl ?_
                  refine DL_gyes rfl rfl rfl (y_ldc Try.underlying3 rfl rfl (((S50.blk 1 rfl).cell _).trans (by rfl))) rfl ?_
                  refine DL_gyes rfl rfl rfl (y_sub rfl rfl (i64w (by omega))) rfl ?_
                  refine DL_ogyes rfl rfl rfl (o_call Try.func19 rfl rfl (rleft g A n c l _ _ w52 (S52.get 0 rfl) hp2) rfl rfl ?_)
                  rintro e53 w53 ⟨v53, rfl, l53, rfl⟩
                  refine ⟨_, rfl, (Like.trans q52 l53), ?_⟩
                  have S53 := S52.like l53
                  have q53 := (Like.trans q52 l53)
                  refine DL_gyes rfl rfl rfl (y_eql rfl rfl) rfl ?_
                  refine DL_y rfl ((by first | exact y_pickT rfl rfl | exact y_pickF rfl rfl)) rfl ?_
                  refine DL_y rfl (y_move rfl) rfl ?_
                  refine DL_split 98 rfl (fun h98 => ?_) (fun h98 => ?_)
                  ·
                    refine DL_gyes rfl rfl rfl (y_move rfl) rfl ?_
                    refine DL_gyes rfl rfl rfl (y_move rfl) rfl ?_
                    refine DL_ogyes rfl rfl rfl (o_call Try.func28 rfl rfl (rend g A n c l _ _ w53 (S53.get 0 rfl) hp2) rfl rfl ?_)
                    rintro e54 w54 ⟨v54, rfl, l54, rfl⟩
                    refine ⟨_, rfl, (Like.trans q53 l54), ?_⟩
                    have S54 := S53.like l54
                    have q54 := (Like.trans q53 l54)
                    refine DL_ogyes rfl rfl rfl (o_call Try.func44 rfl rfl (xend g2 B nb cb l _ _ w54 (S54.get 1 rfl) (S54.rdM hb hM) hp2 (by omega)) rfl rfl ?_)
                    rintro e55 w55 ⟨v55, rfl, l55, rfl⟩
                    refine ⟨_, rfl, (Like.trans q54 l55), ?_⟩
                    have S55 := S54.like l55
                    have q55 := (Like.trans q54 l55)
                    refine DL_gyes rfl rfl rfl (y_eql rfl rfl) rfl ?_
                    refine DL_y rfl ((by first | exact y_pickT rfl rfl | exact y_pickF rfl rfl)) rfl ?_
                    refine DL_y rfl (y_assign rfl) rfl ?_
                    refine DL_nil ?_
                    refine hK15 _ _ ?_
                    refine T_ret ?_
                    repeat (first | with_reducible refine up_then ?_ | with_reducible refine up_in ?_)
                    refine ret1 rfl rfl ?_
                    exact ⟨_, rfl, by rw [show nb = n by omega]; exact congrArg Value.bool (decide_eq_true rfl), _, _, hp2, S55.turned2 0 1 rfl rfl⟩
                  ·
                    exact absurd (by omega) h98
                ·
                  exact absurd rfl h83
              ·
                exact absurd rfl h74
            ·
              exact absurd rfl h65
end Go.Proofs.Ytcbnhmcfdpcbhaa
