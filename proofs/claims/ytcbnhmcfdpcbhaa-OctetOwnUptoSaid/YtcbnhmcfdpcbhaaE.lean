/-
  The law: lay.
-/
import Derived.Test.YtcbnhmcfdpcbhaaD
namespace Go.Proofs.Ytcbnhmcfdpcbhaa
open Go.RowKit Zk Zx
set_option linter.unusedVariables false
set_option linter.unusedSimpArgs false

theorem wu8 (x : Nat) : IntKind.u8.wrap (x : Int) = ((UInt8.ofNat x).toNat : Int) := by
  rw [IntKind.wrap_u8, UInt8.toNat_ofNat']
  omega


set_option maxRecDepth 100000 in
theorem lay (g : Nat) (A : Option Addr) (n c : Nat) (l : List UInt8) (d : Int) (x : Nat) (s : ByteArray) (w0 : World) (hw : (wt g A n c l).holds w0) (hx : x ≤ 18446744073709551615) (hn : l.length + s.size ≤ 70368744170000) :
    Calls Try.prog 9 #[.pointer (some ⟨g, 0, none⟩), .agg #[.int .i64 d, .int .u64 (x : Int), .string s]] w0 fun e w' => ∃ u, e = .returned u ∧ Laid w0 w' g A n c l (l ++ laidL d x s) := by
  refine enter1 (env := [(0, .pointer (some ⟨g, 0, none⟩)), (1, .agg #[.int .i64 d, .int .u64 (x : Int), .string s])]) [.pointer (some ⟨g, 0, none⟩), .agg #[.int .i64 d, .int .u64 (x : Int), .string s]] Try.func9 rfl Try.ntmps9 rfl rfl ?_
  have hln := wt_len hw; have S0 := St.borrow1 (wt g A n c l) hw (wt_lt hw)
  refine T_seq fun K1 hK1 => ?_
  refine T_region ?_
  refine L_o (o_box rfl S0 rfl fun b1 w1 hb1 S1 => ?_)
  refine L_nil ?_
  refine hK1 _ _ ?_
  refine T_seq fun K2 hK2 => ?_
  refine T_region ?_
  refine L_y (y_fieldA 0 Try.underlying29 rfl sz3 rfl rfl rfl) rfl ?_
  refine L_y (y_ldc Try.underlying3 rfl rfl (((S1.blk 1 rfl).cell _).trans (by rfl))) rfl ?_
  refine L_nil ?_
  refine hK2 _ _ ?_
  refine T_block ?_
  refine T_seq fun K3 hK3 => ?_
  refine T_region ?_
  refine L_y (y_eql rfl rfl) rfl ?_
  refine L_y (y_assign rfl) rfl ?_
  refine L_nil ?_
  refine hK3 _ _ ?_
  refine T_cond rfl (fun h11 => ?_) (fun h11 => ?_)
  ·
    refine T_region ?_
    refine L_y (y_move rfl) rfl ?_
    refine L_y (y_fieldA 1 Try.underlying29 rfl sz27 rfl rfl rfl) rfl ?_
    refine L_y (y_ldc Try.underlying27 rfl rfl (((S1.blk 1 rfl).cell _).trans (by rfl))) rfl ?_
    refine L_y (y_conv is27 Try.underlying5 rfl (wu8 x)) rfl ?_
    refine L_o (o_call Try.func30 rfl rfl (wbyte g _ _ _ _ (UInt8.ofNat x) w1 (S1.get 0 rfl) (by omega)) rfl rfl ?_)
    rintro e2 w2 ⟨v2, rfl, ⟨A2, n2, c2, T2⟩⟩
    refine ⟨_, rfl, ?_⟩
    have S2 := S1.turn 0 rfl T2
    refine L_nil ?_
    first | refine end0 (fn := Try.f9) rfl ?_ | (simp only [thenQ, inB, if_true]; refine end0 (fn := Try.f9) rfl ?_)
    exact ⟨_, rfl, _, _, _, by have h := S2.turned1 0 rfl; unfold laidL; (repeat rw [if_neg (by assumption)]); (try rw [if_pos (by assumption)]); exact h⟩
  ·
    refine T_seq fun K4 hK4 => ?_
    refine T_region ?_
    refine L_y (y_eql rfl rfl) rfl ?_
    refine L_y (y_assign rfl) rfl ?_
    refine L_nil ?_
    refine hK4 _ _ ?_
    refine T_cond rfl (fun h18 => ?_) (fun h18 => ?_)
    ·
      refine T_region ?_
      refine L_y (y_move rfl) rfl ?_
      refine L_y (y_fieldA 1 Try.underlying29 rfl sz27 rfl rfl rfl) rfl ?_
      refine L_y (y_ldc Try.underlying27 rfl rfl (((S1.blk 1 rfl).cell _).trans (by rfl))) rfl ?_
      refine L_y (y_conv is27 Try.underlying54 rfl (w32 _)) rfl ?_
      refine L_o (o_call Try.func31 rfl rfl (wu32 g _ _ _ _ (x % 4294967296) w1 (S1.get 0 rfl) (by omega) (by omega)) rfl rfl ?_)
      rintro e3 w3 ⟨v3, rfl, ⟨A3, n3, c3, T3⟩⟩
      refine ⟨_, rfl, ?_⟩
      have S3 := S1.turn 0 rfl T3
      refine L_nil ?_
      first | refine end0 (fn := Try.f9) rfl ?_ | (simp only [thenQ, inB, if_true]; refine end0 (fn := Try.f9) rfl ?_)
      exact ⟨_, rfl, _, _, _, by have h := S3.turned1 0 rfl; unfold laidL; (repeat rw [if_neg (by assumption)]); (try rw [if_pos (by assumption)]); exact h⟩
    ·
      refine T_seq fun K5 hK5 => ?_
      refine T_region ?_
      refine L_y (y_eql rfl rfl) rfl ?_
      refine L_y (y_assign rfl) rfl ?_
      refine L_nil ?_
      refine hK5 _ _ ?_
      refine T_cond rfl (fun h25 => ?_) (fun h25 => ?_)
      ·
        refine T_region ?_
        refine L_y (y_move rfl) rfl ?_
        refine L_y (y_fieldA 1 Try.underlying29 rfl sz27 rfl rfl rfl) rfl ?_
        refine L_y (y_ldc Try.underlying27 rfl rfl (((S1.blk 1 rfl).cell _).trans (by rfl))) rfl ?_
        refine L_o (o_call Try.func32 rfl rfl (wu64 g _ _ _ _ x w1 (S1.get 0 rfl) (by omega) (by omega)) rfl rfl ?_)
        rintro e4 w4 ⟨v4, rfl, ⟨A4, n4, c4, T4⟩⟩
        refine ⟨_, rfl, ?_⟩
        have S4 := S1.turn 0 rfl T4
        refine L_nil ?_
        first | refine end0 (fn := Try.f9) rfl ?_ | (simp only [thenQ, inB, if_true]; refine end0 (fn := Try.f9) rfl ?_)
        exact ⟨_, rfl, _, _, _, by have h := S4.turned1 0 rfl; unfold laidL; (repeat rw [if_neg (by assumption)]); (try rw [if_pos (by assumption)]); exact h⟩
      ·
        refine T_seq fun K6 hK6 => ?_
        refine T_region ?_
        refine L_y (y_eql rfl rfl) rfl ?_
        refine L_y (y_assign rfl) rfl ?_
        refine L_nil ?_
        refine hK6 _ _ ?_
        refine T_cond rfl (fun h31 => ?_) (fun h31 => ?_)
        ·
          refine T_region ?_
          refine L_y (y_move rfl) rfl ?_
          refine L_y (y_fieldA 1 Try.underlying29 rfl sz27 rfl rfl rfl) rfl ?_
          refine L_y (y_ldc Try.underlying27 rfl rfl (((S1.blk 1 rfl).cell _).trans (by rfl))) rfl ?_
          refine L_o (o_call Try.func20 rfl rfl (wvar g _ _ _ _ x w1 (S1.get 0 rfl) (by omega) (by omega)) rfl rfl ?_)
          rintro e5 w5 ⟨v5, rfl, ⟨A5, n5, c5, T5⟩⟩
          refine ⟨_, rfl, ?_⟩
          have S5 := S1.turn 0 rfl T5
          refine L_nil ?_
          first | refine end0 (fn := Try.f9) rfl ?_ | (simp only [thenQ, inB, if_true]; refine end0 (fn := Try.f9) rfl ?_)
          exact ⟨_, rfl, _, _, _, by have h := S5.turned1 0 rfl; unfold laidL; (repeat rw [if_neg (by assumption)]); (try rw [if_pos (by assumption)]); exact h⟩
        ·
          refine T_seq fun K7 hK7 => ?_
          refine T_region ?_
          refine L_y (y_eql rfl rfl) rfl ?_
          refine L_y (y_assign rfl) rfl ?_
          refine L_nil ?_
          refine hK7 _ _ ?_
          refine T_cond rfl (fun h37 => ?_) (fun h37 => ?_)
          ·
            refine T_region ?_
            refine L_y (y_move rfl) rfl ?_
            refine L_y (y_fieldA 2 Try.underlying29 rfl sz9 rfl rfl rfl) rfl ?_
            refine L_y (y_ldc Try.underlying9 rfl rfl (((S1.blk 1 rfl).cell _).trans (by rfl))) rfl ?_
            refine L_o (o_call Try.func21 rfl rfl (wtext g _ _ _ _ s w1 (S1.get 0 rfl) (by omega)) rfl rfl ?_)
            rintro e6 w6 ⟨v6, rfl, ⟨A6, n6, c6, T6⟩⟩
            refine ⟨_, rfl, ?_⟩
            have S6 := S1.turn 0 rfl T6
            refine L_nil ?_
            first | refine end0 (fn := Try.f9) rfl ?_ | (simp only [thenQ, inB, if_true]; refine end0 (fn := Try.f9) rfl ?_)
            exact ⟨_, rfl, _, _, _, by have h := S6.turned1 0 rfl; unfold laidL; (repeat rw [if_neg (by assumption)]); (try rw [if_pos (by assumption)]); exact h⟩
          ·
            refine T_region ?_
            refine L_y (y_move rfl) rfl ?_
            refine L_y (y_fieldA 2 Try.underlying29 rfl sz9 rfl rfl rfl) rfl ?_
            refine L_y (y_ldc Try.underlying9 rfl rfl (((S1.blk 1 rfl).cell _).trans (by rfl))) rfl ?_
            refine L_o (o_sbytes Try.underlying9 Try.underlying25 Try.underlying5 rfl (by omega) S1 rfl fun b7 c7 w7 l7 S7 => ?_)
            refine L_o (o_call Try.func29 rfl rfl (wraw g _ _ _ _ _ _ _ _ w7 (S7.get 0 rfl) (S7.get 2 rfl) (by omega)) rfl rfl ?_)
            rintro e8 w8 ⟨v8, rfl, ⟨A8, n8, c8, T8⟩⟩
            refine ⟨_, rfl, ?_⟩
            have S8 := S7.turn 0 rfl T8
            refine L_nil ?_
            first | refine end0 (fn := Try.f9) rfl ?_ | (simp only [thenQ, inB, if_true]; refine end0 (fn := Try.f9) rfl ?_)
            exact ⟨_, rfl, _, _, _, by have h := S8.turned1 0 rfl; unfold laidL; (repeat rw [if_neg (by assumption)]); (try rw [if_pos (by assumption)]); exact h⟩
end Go.Proofs.Ytcbnhmcfdpcbhaa
