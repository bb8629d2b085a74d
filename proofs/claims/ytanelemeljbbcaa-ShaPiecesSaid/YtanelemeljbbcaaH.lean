/-
  The schedule, by the code, wherever the bytes lie.
-/
import Derived.Test.YtanelemeljbbcaaG
namespace Go.Proofs.Ytanelemeljbbcaa
open Go.RowKit Zk Zx
set_option linter.unusedVariables false
set_option linter.unusedSimpArgs false

theorem uA_get' (l : List UInt32) (j : Nat) (h : j < l.length) : (uA l)[j]? = some (uV (l.getD j 0)) := by
  simp [uA, uL, List.getD_eq_getElem?_getD, List.getElem?_eq_getElem h]
theorem sched_cell (b : List UInt8) (k j : Nat) (h : j < k) : (uA (sched b k ++ z64.drop k))[j]? = some (uV ((sched b k).getD j 0)) := by
  rw [uA_get' _ _ (by rw [List.length_append, length_sched]; omega)]
  congr 2
  simp only [List.getD_eq_getElem?_getD]
  rw [List.getElem?_append_left (by rw [length_sched]; exact h)]
theorem sched_lay (b : List UInt8) (k : Nat) (h : k < 64) (x : UInt32) (hx : sched b (k + 1) = sched b k ++ [x]) : (uA (sched b k ++ z64.drop k)).setIfInBounds k (.int .u32 (N x)) = uA (sched b (k + 1) ++ z64.drop (k + 1)) := by
  rw [uA_set, sched_set b k h x, hx]
theorem shl_u32 (n k : Nat) (h : k ≤ 32) (x : Int) (hx : 0 ≤ x) (hlt : x * 2 ^ k ≤ 4294967295) : IntKind.u32.wrap (x * 2 ^ (min ((k : Nat) : Int).toNat IntKind.u32.bits)) = x * 2 ^ k := by
  have e : min ((k : Nat) : Int).toNat IntKind.u32.bits = k := by simp only [IntKind.bits]; omega
  rw [e, IntKind.wrap_u32]
  exact Int.emod_eq_of_lt (Int.mul_nonneg hx (Int.pow_nonneg (by omega))) (by omega)
theorem wordE (b : List UInt8) (k : Nat) : bits BinOp.or IntKind.u32 (bits BinOp.or IntKind.u32 (bits BinOp.or IntKind.u32 (IntKind.u32.wrap (g8 b (4 * k) * 2 ^ (min (24 : Int).toNat IntKind.u32.bits))) (IntKind.u32.wrap (g8 b (4 * k + 1) * 2 ^ (min (16 : Int).toNat IntKind.u32.bits))))
    (IntKind.u32.wrap (g8 b (4 * k + 2) * 2 ^ (min (8 : Int).toNat IntKind.u32.bits)))) (g8 b (4 * k + 3)) = N (word b k) := by
  have h := wordO (b.getD (4 * k) 0) (b.getD (4 * k + 1) 0) (b.getD (4 * k + 2) 0) (b.getD (4 * k + 3) 0)
  have w : ∀ c : UInt8, IntKind.u32.wrap (c.toNat : Int) = (c.toNat : Int) := fun c => u32w ⟨by omega, by have := c.toNat_lt; omega⟩
  simp only [w] at h
  exact h


set_option maxRecDepth 100000 in
theorem spread (b : List UInt8) (B : Option Addr) (n cb : Nat) (hn : n = 64) (w0 : World) (hb : Rs w0 1 B n cb (bL b)) :
    Calls Try.prog 25 #[.slice B n cb] w0 fun e w' => ∃ u, e = .returned u ∧ Like w0 w' ∧ u = .agg (uA (sched b 64)) := by
  refine enter1 (env := [(0, .slice B n cb)]) [.slice B n cb] Try.func25 rfl Try.ntmps25 rfl rfl ?_
  have S0 := St.start w0 noM
  refine T_seq fun K1 hK1 => ?_
  refine T_region ?_
  refine L_o (o_alloc zz54 S0 rfl fun b1 w1 hb1 S1 => ?_)
  refine L_nil ?_
  refine hK1 _ _ ?_
  refine T_seq fun K2 hK2 => ?_
  refine T_region ?_
  refine L_o (o_alloc zz54 S1 rfl fun b2 w2 hb2 S2 => ?_)
  refine L_nil ?_
  refine hK2 _ _ ?_
  refine T_seq fun K3 hK3 => ?_
  refine T_seq fun K4 hK4 => ?_
  refine T_region ?_
  refine L_y (y_assign rfl) rfl ?_
  refine L_nil ?_
  refine hK4 _ _ ?_
  refine T_block ?_
  refine T_loop1 [(0, _), (2, _), (3, _)] (fun (k : Nat) => [(4, .int .i64 (k : Int))]) (fun (k : Nat) => 16 - k) (fun (k : Nat) (w : World) => k ≤ 16 ∧ Zx.St w0 noM [blk b1 54 (uA z64), blk b2 54 (uA (sched b k ++ z64.drop k))] w) 0 (Sub.cons rfl (by first | rfl | exact congrArg (Value.int _) (by omega)) (Sub.nil _)) (Sub.cons rfl rfl (Sub.cons rfl rfl (Sub.cons rfl rfl (Sub.nil _)))) ?_ ?_
  ·
    exact ⟨by omega, S2⟩
  ·
    intro k w3 hrel
    obtain ⟨hk, S3⟩ := hrel
    refine T_seq fun K5 hK5 => ?_
    refine T_seq fun K6 hK6 => ?_
    refine T_region ?_
    refine L_y (y_move rfl) rfl ?_
    refine L_y (y_lss rfl rfl) rfl ?_
    refine L_nil ?_
    refine hK6 _ _ ?_
    refine T_cond rfl (fun h11 => ?_) (fun h11 => ?_)
    ·
      have hlt : k < 16 := by omega
      refine T_skip ?_
      refine hK5 _ _ ?_
      refine T_seq fun K7 hK7 => ?_
      refine T_block ?_
      refine T_tail 35 hmix (by kernel_rfl) fun w4 l4 K8 hK8 => ?_
      have S4 := S3.like l4
      refine HL_y (y_move rfl) rfl ?_
      refine HL_y (y_move rfl) rfl ?_
      refine HL_y (y_move rfl) rfl ?_
      refine HL_y (y_mul rfl rfl (i64w (by omega))) rfl ?_
      refine HL_y (y_idx Try.underlying23 sz5 rfl rfl (by first | exact S4.rd hb) inferInstance (by omega)) rfl ?_
      refine HL_yb (y_ldb Try.underlying5 rfl rfl (by first | exact S4.rd hb) (by omega)) rfl fun _ _ => ?_
      refine HL_y (y_conv is5 Try.underlying34 rfl (u32w (by omega))) rfl ?_
      refine HL_y (y_shl rfl rfl (by omega) rfl) rfl ?_
      refine HL_y (y_move rfl) rfl ?_
      refine HL_y (y_move rfl) rfl ?_
      refine HL_y (y_mul rfl rfl (i64w (by omega))) rfl ?_
      refine HL_y (y_add rfl rfl (i64w (by omega))) rfl ?_
      refine HL_y (y_idx Try.underlying23 sz5 rfl rfl (by first | exact S4.rd hb) inferInstance (by omega)) rfl ?_
      refine HL_yb (y_ldb Try.underlying5 rfl rfl (by first | exact S4.rd hb) (by omega)) rfl fun _ _ => ?_
      refine HL_y (y_conv is5 Try.underlying34 rfl (u32w (by omega))) rfl ?_
      refine HL_y (y_shl rfl rfl (by omega) rfl) rfl ?_
      refine HL_y (y_bits rfl rfl rfl rfl) rfl ?_
      refine HL_y (y_move rfl) rfl ?_
      refine HL_y (y_move rfl) rfl ?_
      refine HL_y (y_mul rfl rfl (i64w (by omega))) rfl ?_
      refine HL_y (y_add rfl rfl (i64w (by omega))) rfl ?_
      refine HL_y (y_idx Try.underlying23 sz5 rfl rfl (by first | exact S4.rd hb) inferInstance (by omega)) rfl ?_
      refine HL_yb (y_ldb Try.underlying5 rfl rfl (by first | exact S4.rd hb) (by omega)) rfl fun _ _ => ?_
      refine HL_y (y_conv is5 Try.underlying34 rfl (u32w (by omega))) rfl ?_
      refine HL_y (y_shl rfl rfl (by omega) rfl) rfl ?_
      refine HL_y (y_bits rfl rfl rfl rfl) rfl ?_
      refine HL_y (y_move rfl) rfl ?_
      refine HL_y (y_move rfl) rfl ?_
      refine HL_y (y_mul rfl rfl (i64w (by omega))) rfl ?_
      refine HL_y (y_add rfl rfl (i64w (by omega))) rfl ?_
      refine HL_y (y_idx Try.underlying23 sz5 rfl rfl (by first | exact S4.rd hb) inferInstance (by omega)) rfl ?_
      refine HL_yb (y_ldb Try.underlying5 rfl rfl (by first | exact S4.rd hb) (by omega)) rfl fun _ _ => ?_
      refine HL_y (y_conv is5 Try.underlying34 rfl (u32w (by omega))) rfl ?_
      refine HL_y (y_bits rfl rfl rfl (wordE _ _)) rfl ?_
      refine HL_y (y_idxA0 Try.underlying54 sz34 rfl rfl inferInstance (by omega)) rfl ?_
      refine HL_nil ?_
      refine hK8 _ ?_
      refine L_o (o_st1 S4 1 rfl rfl rfl rfl sz34 (by simp [length_sched, z64]; omega) fun w5 S5 => ?_)
      have S9 := S5.blkc 1 rfl (sched_lay b k (by omega) (word b k) (by simp [sched, hlt]))
      refine L_nil ?_
      refine hK7 _ _ ?_
      refine T_region ?_
      refine L_y (y_move rfl) rfl ?_
      refine L_y (y_add rfl rfl (i64w (by omega))) rfl ?_
      refine L_y (y_assign rfl) rfl ?_
      refine L_nil ?_
      refine ⟨k + 1, by omega, ⟨by omega, S9⟩, ?_⟩
      exact (Sub.cons rfl (by first | rfl | exact congrArg (Value.int _) (by omega)) (Sub.cons rfl rfl (Sub.cons rfl rfl (Sub.cons rfl rfl (Sub.nil _)))))
    ·
      obtain rfl : k = 16 := by omega
      refine T_exit ?_
      refine hK3 _ _ ?_
      refine T_seq fun K9 hK9 => ?_
      refine T_seq fun K10 hK10 => ?_
      refine T_region ?_
      refine L_y (y_assign rfl) rfl ?_
      refine L_nil ?_
      refine hK10 _ _ ?_
      refine T_block ?_
      refine T_loop1 [(2, _), (3, _)] (fun (k : Nat) => [(5, .int .i64 (k : Int))]) (fun (k : Nat) => 64 - k) (fun (k : Nat) (w : World) => 16 ≤ k ∧ k ≤ 64 ∧ Zx.St w0 noM [blk b1 54 (uA z64), blk b2 54 (uA (sched b k ++ z64.drop k))] w) 16 (Sub.cons rfl (by first | rfl | exact congrArg (Value.int _) (by omega)) (Sub.nil _)) (Sub.cons rfl rfl (Sub.cons rfl rfl (Sub.nil _))) ?_ ?_
      ·
        exact ⟨by omega, by omega, S3⟩
      ·
        intro k w6 hrel
        obtain ⟨hk1, hk2, S6⟩ := hrel
        refine T_seq fun K11 hK11 => ?_
        refine T_seq fun K12 hK12 => ?_
        refine T_region ?_
        refine L_y (y_move rfl) rfl ?_
        refine L_y (y_lss rfl rfl) rfl ?_
        refine L_nil ?_
        refine hK12 _ _ ?_
        refine T_cond rfl (fun h50 => ?_) (fun h50 => ?_)
        ·
          have hlt : k < 64 := by omega
          have hge : ¬ k < 16 := by omega
          refine T_skip ?_
          refine hK11 _ _ ?_
          refine T_seq fun K13 hK13 => ?_
          refine T_block ?_
          refine T_seq fun K14 hK14 => ?_
          refine T_drawnL [(0, true), (1, true), (2, true), (3, true), (4, true), (5, true), (6, true), (7, true), (8, true), (9, true)] hmix (by kernel_rfl) fun w7 l7 => ?_
          have S7 := S6.like l7
          refine DL_y rfl (y_move rfl) rfl ?_
          refine DL_y rfl (y_sub rfl rfl (i64w (by omega))) rfl ?_
          refine DL_y rfl (y_idxA0 Try.underlying54 sz34 rfl rfl (Nt.mk (by omega) : Nt _ (k - 15)) (by omega)) rfl ?_
          refine DL_y rfl (y_ldc Try.underlying34 rfl rfl (((S7.blk 1 rfl).cell _).trans (sched_cell b k (k - 15) (by omega)))) rfl ?_
          refine DL_y rfl (y_move rfl) rfl ?_
          refine DL_y rfl (y_sub rfl rfl (i64w (by omega))) rfl ?_
          refine DL_y rfl (y_idxA0 Try.underlying54 sz34 rfl rfl (Nt.mk (by omega) : Nt _ (k - 2)) (by omega)) rfl ?_
          refine DL_y rfl (y_ldc Try.underlying34 rfl rfl (((S7.blk 1 rfl).cell _).trans (sched_cell b k (k - 2) (by omega)))) rfl ?_
          refine DL_y rfl (y_assign rfl) rfl ?_
          refine DL_y rfl (y_assign rfl) rfl ?_
          refine DL_nil ?_
          refine hK14 _ _ ?_
          refine T_seq fun K15 hK15 => ?_
          refine T_region ?_
          refine L_y (y_move rfl) rfl ?_
          refine L_o (o_call Try.func26 rfl rfl (pureC (rotl7 _ _)) rfl rfl ?_)
          rintro e8 w8 ⟨v8, rfl, l8, rfl⟩
          refine ⟨_, rfl, ?_⟩
          have S8 := S7.like l8
          refine L_y (y_move rfl) rfl ?_
          refine L_o (o_call Try.func26 rfl rfl (pureC (rotl18 _ _)) rfl rfl ?_)
          rintro e9 w9 ⟨v9, rfl, l9, rfl⟩
          refine ⟨_, rfl, ?_⟩
          have S9 := S8.like l9
          refine L_y (y_bits rfl rfl rfl (xorN _ _)) rfl ?_
          refine L_y (y_move rfl) rfl ?_
          refine L_y (y_shr rfl rfl (by omega) (shr3F _)) rfl ?_
          refine L_y (y_bits rfl rfl rfl (xorN _ _)) rfl ?_
          refine L_y (y_assign rfl) rfl ?_
          refine L_nil ?_
          refine hK15 _ _ ?_
          refine T_seq fun K16 hK16 => ?_
          refine T_region ?_
          refine L_y (y_move rfl) rfl ?_
          refine L_o (o_call Try.func26 rfl rfl (pureC (rotl17 _ _)) rfl rfl ?_)
          rintro e10 w10 ⟨v10, rfl, l10, rfl⟩
          refine ⟨_, rfl, ?_⟩
          have S10 := S9.like l10
          refine L_y (y_move rfl) rfl ?_
          refine L_o (o_call Try.func26 rfl rfl (pureC (rotl19 _ _)) rfl rfl ?_)
          rintro e11 w11 ⟨v11, rfl, l11, rfl⟩
          refine ⟨_, rfl, ?_⟩
          have S11 := S10.like l11
          refine L_y (y_bits rfl rfl rfl (xorN _ _)) rfl ?_
          refine L_y (y_move rfl) rfl ?_
          refine L_y (y_shr rfl rfl (by omega) (shr10F _)) rfl ?_
          refine L_y (y_bits rfl rfl rfl (xorN _ _)) rfl ?_
          refine L_y (y_assign rfl) rfl ?_
          refine L_nil ?_
          refine hK16 _ _ ?_
          refine T_tail 15 hmix (by kernel_rfl) fun w12 l12 K17 hK17 => ?_
          have S12 := S11.like l12
          refine HL_y (y_move rfl) rfl ?_
          refine HL_y (y_move rfl) rfl ?_
          refine HL_y (y_sub rfl rfl (i64w (by omega))) rfl ?_
          refine HL_y (y_idxA0 Try.underlying54 sz34 rfl rfl (Nt.mk (by omega) : Nt _ (k - 16)) (by omega)) rfl ?_
          refine HL_y (y_ldc Try.underlying34 rfl rfl (((S12.blk 1 rfl).cell _).trans (sched_cell b k (k - 16) (by omega)))) rfl ?_
          refine HL_y (y_move rfl) rfl ?_
          refine HL_y (y_add rfl rfl (addW _ _)) rfl ?_
          refine HL_y (y_move rfl) rfl ?_
          refine HL_y (y_sub rfl rfl (i64w (by omega))) rfl ?_
          refine HL_y (y_idxA0 Try.underlying54 sz34 rfl rfl (Nt.mk (by omega) : Nt _ (k - 7)) (by omega)) rfl ?_
          refine HL_y (y_ldc Try.underlying34 rfl rfl (((S12.blk 1 rfl).cell _).trans (sched_cell b k (k - 7) (by omega)))) rfl ?_
          refine HL_y (y_add rfl rfl (addW _ _)) rfl ?_
          refine HL_y (y_move rfl) rfl ?_
          refine HL_y (y_add rfl rfl (addW _ _)) rfl ?_
          refine HL_y (y_idxA0 Try.underlying54 sz34 rfl rfl inferInstance (by omega)) rfl ?_
          refine HL_nil ?_
          refine hK17 _ ?_
          refine L_o (o_st1 S12 1 rfl rfl rfl rfl sz34 (by simp [length_sched, z64]; omega) fun w13 S13 => ?_)
          have S9 := S13.blkc 1 rfl (sched_lay b k hlt _ (by simp only [sched, if_neg hge]; rfl))
          refine L_nil ?_
          refine hK13 _ _ ?_
          refine T_region ?_
          refine L_y (y_move rfl) rfl ?_
          refine L_y (y_add rfl rfl (i64w (by omega))) rfl ?_
          refine L_y (y_assign rfl) rfl ?_
          refine L_nil ?_
          refine ⟨k + 1, by omega, ⟨by omega, by omega, S9⟩, ?_⟩
          exact (Sub.cons rfl (by first | rfl | exact congrArg (Value.int _) (by omega)) (Sub.cons rfl rfl (Sub.cons rfl rfl (Sub.nil _))))
        ·
          obtain rfl : k = 64 := by omega
          have S8 := S6.blkc (cs' := uA (sched b 64)) 1 rfl (by rw [show z64.drop 64 = [] from rfl, List.append_nil])
          generalize hSS : sched b 64 = SS at S8 ⊢
          have hSl : SS.length = 64 := by rw [← hSS]; exact length_sched b 64
          have S7 := S8
          refine T_exit ?_
          refine hK9 _ _ ?_
          refine T_seq fun K18 hK18 => ?_
          refine T_region ?_
          refine L_y (y_ldW (size := 64) (vs := uL SS) Try.underlying54 rfl sz54 rfl (S8.blk 1 rfl) ⟨by rw [List.drop_zero]; exact List.take_of_length_le (by simp [uA, hSl]), by simp [hSl]⟩) rfl ?_
          refine L_o (o_stW S6 0 rfl rfl rfl (by rw [List.size_toArray, length_uL, hSl]; exact sz54) (by simp [hSl, z64]) (uL_one _) fun w14 S14 => ?_)
          refine L_nil ?_
          refine hK18 _ _ ?_
          refine T_ret ?_
          repeat (first | with_reducible refine up_then ?_ | with_reducible refine up_in ?_)
          refine retc rfl rfl (S14.blk 0 rfl) Try.underlying54 rfl (by rw [List.size_toArray, length_uL, hSl]; exact sz54) ?_
          exact ⟨_, rfl, S14.like0, by rw [hSS]; rfl⟩
end Go.Proofs.Ytanelemeljbbcaa
