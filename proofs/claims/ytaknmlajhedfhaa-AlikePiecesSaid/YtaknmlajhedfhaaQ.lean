/-
  The law AlikePieces.
-/
import Derived.Test.YtaknmlajhedfhaaO
namespace Go.Proofs.Ytaknmlajhedfhaa
open Go.RowKit Zk Zx
set_option linter.unusedVariables false
set_option linter.unusedSimpArgs false

set_option maxRecDepth 100000 in
theorem pieces (A : Option Addr) (n c : Nat) (l : List UInt8) (w0 : World) (hb : Rs w0 1 A n c (bL l)) :
    Calls Try.prog 5 #[.slice A n c] w0 fun e w' => ∃ u, e = .returned u ∧ Like w0 w' ∧ u = .bool true := by
  refine enter1 (env := [(0, .slice A n c)]) [.slice A n c] Try.func5 rfl Try.ntmps5 rfl rfl ?_
  have hln := hb.lenb; have S0 := St.start w0 noM
  refine T_seq fun K1 hK1 => ?_
  refine T_region ?_
  refine L_y (y_assign rfl) rfl ?_
  refine L_nil ?_
  refine hK1 _ _ ?_
  refine T_seq fun K2 hK2 => ?_
  refine T_seq fun K3 hK3 => ?_
  refine T_region ?_
  refine L_y (y_move rfl) rfl ?_
  refine L_y (y_len Try.underlying22 rfl) rfl ?_
  refine L_y (y_gtr rfl rfl) rfl ?_
  refine L_nil ?_
  refine hK3 _ _ ?_
  refine T_cond rfl (fun h8 => ?_) (fun h8 => ?_)
  ·
    refine T_seq fun K4 hK4 => ?_
    refine T_region ?_
    refine L_o (o_call Try.func7 rfl rfl (works w0) rfl rfl ?_)
    rintro e1 w1 ⟨v1, rfl, l1, rfl⟩
    refine ⟨_, rfl, ?_⟩
    have S1 := S0.like l1
    refine L_y (y_assign rfl) rfl ?_
    refine L_nil ?_
    refine hK4 _ _ ?_
    refine T_ret ?_
    repeat (first | with_reducible refine up_then ?_ | with_reducible refine up_in ?_)
    refine ret1 rfl rfl ?_
    exact ⟨_, rfl, S1.like0, rfl⟩
  ·
    refine T_skip ?_
    refine hK2 _ _ ?_
    refine T_seq fun K5 hK5 => ?_
    refine T_region ?_
    refine L_y (y_move rfl) rfl ?_
    refine L_o (o_call Try.func13 rfl rfl (ppieces A n c l w0 (S0.rd hb) (by omega)) rfl rfl ?_)
    rintro e2 w2 ⟨v2, rfl, l2, AX, mX, cX, xs, rfl, O2, hps1⟩
    refine ⟨_, rfl, ?_⟩
    have S2 := S0.adopt l2 O2
    have hxn : mX = xs.length := by have := (S2.row 0 rfl).len; rw [pcs_len] at this; omega
    refine L_y (y_assign rfl) rfl ?_
    refine L_nil ?_
    refine hK5 _ _ ?_
    refine T_seq fun K6 hK6 => ?_
    refine T_region ?_
    refine L_y (y_move rfl) rfl ?_
    refine L_o (o_call Try.func14 rfl rfl (rpieces A n c l w2 (S2.rd hb) (by omega)) rfl rfl ?_)
    rintro e3 w3 ⟨v3, rfl, l3, AY, mY, cY, ys, rfl, O3, hps2⟩
    refine ⟨_, rfl, ?_⟩
    have S3 := S2.adopt l3 O3
    have hxy := PS.eq hps1 hps2
    subst hxy
    have hyn : mY = xs.length := by have := (S3.row 1 rfl).len; rw [pcs_len] at this; omega
    have hcx := (S3.row 0 rfl).cap
    have hmx := (S3.row 0 rfl).max
    refine L_y (y_assign rfl) rfl ?_
    refine L_nil ?_
    refine hK6 _ _ ?_
    refine T_seq fun K7 hK7 => ?_
    refine T_seq fun K8 hK8 => ?_
    refine T_region ?_
    refine L_y (y_move rfl) rfl ?_
    refine L_y (y_len Try.underlying28 rfl) rfl ?_
    refine L_y (y_move rfl) rfl ?_
    refine L_y (y_len Try.underlying30 rfl) rfl ?_
    refine L_y (y_neq rfl rfl) rfl ?_
    refine L_nil ?_
    refine hK8 _ _ ?_
    refine T_cond rfl (fun h18 => ?_) (fun h18 => ?_)
    ·
      exact absurd h18 (by omega)
    ·
      refine T_skip ?_
      refine hK7 _ _ ?_
      refine T_seq fun K9 hK9 => ?_
      refine T_seq fun K10 hK10 => ?_
      refine T_region ?_
      refine L_y (y_assign rfl) rfl ?_
      refine L_nil ?_
      refine hK10 _ _ ?_
      refine T_block ?_
      refine T_loop1 [(3, _), (4, _)] (fun (k : Nat) => [(5, .int .i64 (k : Int))]) (fun (k : Nat) => mX - k) (fun (k : Nat) (w : World) => k ≤ mX ∧ St w0 noM [row 33 2 AX mX cX (xs.flatMap pcf), row 34 2 AY mY cY (xs.flatMap pcf)] w) 0 (Sub.cons rfl (by first | rfl | exact congrArg (Value.int _) (by omega)) (Sub.nil _)) (Sub.cons rfl rfl (Sub.cons rfl rfl (Sub.nil _))) ?_ ?_
      ·
        exact ⟨Nat.zero_le _, S3⟩
      ·
        intro k w4 hrel
        obtain ⟨hk, S4⟩ := hrel
        refine T_seq fun K11 hK11 => ?_
        refine T_seq fun K12 hK12 => ?_
        refine T_region ?_
        refine L_y (y_move rfl) rfl ?_
        refine L_y (y_move rfl) rfl ?_
        refine L_y (y_len Try.underlying28 rfl) rfl ?_
        refine L_y (y_lss rfl rfl) rfl ?_
        refine L_nil ?_
        refine hK12 _ _ ?_
        refine T_cond rfl (fun h22 => ?_) (fun h22 => ?_)
        ·
          obtain ⟨x, hx⟩ : ∃ x, xs[k]? = some x := ⟨_, List.getElem?_eq_getElem (by omega)⟩
          have hpg := pc_get xs k x hx
          refine T_skip ?_
          refine hK11 _ _ ?_
          refine T_seq fun K13 hK13 => ?_
          refine T_block ?_
          refine T_seq fun K14 hK14 => ?_
          refine T_drawnL [(0, true), (1, true), (2, true), (3, true), (4, true), (5, true), (6, true), (7, true), (8, true), (9, true), (10, true), (11, true), (12, true), (13, true), (14, true), (15, true), (16, true), (17, true), (18, true), (19, true), (20, true), (21, true), (22, true), (23, true)] hmix (by kernel_rfl) fun w5 l5 => ?_
          have S5 := S4.like l5
          refine DL_y rfl (y_move rfl) rfl ?_
          refine DL_y rfl (y_move rfl) rfl ?_
          refine DL_y rfl (y_idx Try.underlying28 sz33 rfl rfl (S5.row 0 rfl) inferInstance (by omega)) rfl ?_
          refine DL_y rfl (y_fieldR 0 Try.underlying33 rfl sz9 rfl rfl (S5.row 0 rfl) (by omega) rfl) rfl ?_
          refine DL_y rfl (y_ldf Try.underlying9 rfl rfl (S5.row 0 rfl) (by omega) hpg.1) rfl ?_
          refine DL_y rfl (y_move rfl) rfl ?_
          refine DL_y rfl (y_move rfl) rfl ?_
          refine DL_y rfl (y_idx Try.underlying30 sz34 rfl rfl (S5.row 1 rfl) inferInstance (by omega)) rfl ?_
          refine DL_y rfl (y_fieldR 0 Try.underlying34 rfl sz9 rfl rfl (S5.row 1 rfl) (by omega) rfl) rfl ?_
          refine DL_y rfl (y_ldf Try.underlying9 rfl rfl (S5.row 1 rfl) (by omega) hpg.1) rfl ?_
          refine DL_y rfl (y_sneq rfl rfl) rfl ?_
          refine DL_y rfl (y_move rfl) rfl ?_
          refine DL_split 36 rfl (fun h36 => ?_) (fun h36 => ?_)
          ·
            exact absurd rfl h36
          ·
            refine DL_gyes rfl rfl rfl (y_move rfl) rfl ?_
            refine DL_gyes rfl rfl rfl (y_move rfl) rfl ?_
            refine DL_gyes rfl rfl rfl (y_idx Try.underlying28 sz33 rfl rfl (S5.row 0 rfl) inferInstance (by omega)) rfl ?_
            refine DL_gyes rfl rfl rfl (y_fieldR 1 Try.underlying33 rfl sz3 rfl rfl (S5.row 0 rfl) (by omega) rfl) rfl ?_
            refine DL_gyes rfl rfl rfl (y_ldf Try.underlying3 rfl rfl (S5.row 0 rfl) (by omega) hpg.2) rfl ?_
            refine DL_gyes rfl rfl rfl (y_move rfl) rfl ?_
            refine DL_gyes rfl rfl rfl (y_move rfl) rfl ?_
            refine DL_gyes rfl rfl rfl (y_idx Try.underlying30 sz34 rfl rfl (S5.row 1 rfl) inferInstance (by omega)) rfl ?_
            refine DL_gyes rfl rfl rfl (y_fieldR 1 Try.underlying34 rfl sz3 rfl rfl (S5.row 1 rfl) (by omega) rfl) rfl ?_
            refine DL_gyes rfl rfl rfl (y_ldf Try.underlying3 rfl rfl (S5.row 1 rfl) (by omega) hpg.2) rfl ?_
            refine DL_gyes rfl rfl rfl (y_neq rfl rfl) rfl ?_
            refine DL_y rfl ((by first | exact y_pickT rfl rfl | exact y_pickF rfl rfl)) rfl ?_
            refine DL_nil ?_
            refine hK14 _ _ ?_
            refine T_cond rfl (fun h48 => ?_) (fun h48 => ?_)
            ·
              exact absurd rfl h48
            ·
              refine T_skip ?_
              refine hK13 _ _ ?_
              refine T_region ?_
              refine L_y (y_move rfl) rfl ?_
              refine L_y (y_add rfl rfl (i64w (by omega))) rfl ?_
              refine L_y (y_assign rfl) rfl ?_
              refine L_nil ?_
              refine ⟨k + 1, by omega, ⟨by omega, S5⟩, ?_⟩
              exact (Sub.cons rfl (by first | rfl | exact congrArg (Value.int _) (by omega)) (Sub.cons rfl rfl (Sub.cons rfl rfl (Sub.nil _))))
        ·
          refine T_exit ?_
          refine hK9 _ _ ?_
          refine T_seq fun K15 hK15 => ?_
          refine T_region ?_
          refine L_o (o_call Try.func7 rfl rfl (works w4) rfl rfl ?_)
          rintro e6 w6 ⟨v6, rfl, l6, rfl⟩
          refine ⟨_, rfl, ?_⟩
          have S6 := S4.like l6
          refine L_y (y_assign rfl) rfl ?_
          refine L_nil ?_
          refine hK15 _ _ ?_
          refine T_ret ?_
          repeat (first | with_reducible refine up_then ?_ | with_reducible refine up_in ?_)
          refine ret1 rfl rfl ?_
          exact ⟨_, rfl, S6.like0, rfl⟩


theorem pieces_law (A : Option Addr) (n c : Nat) (l : List UInt8) (w0 : World) (hb : Rs w0 1 A n c (bL l)) :
    Calls Try.prog 5 #[.slice A n c] w0 fun e w' => e = .returned (.bool true) ∧ Below w0.heap.size w0 w' :=
  (pieces A n c l w0 hb).mono fun e w' ⟨u, h1, h2, h3⟩ => by subst h3; exact ⟨h1, h2⟩
end Go.Proofs.Ytaknmlajhedfhaa
