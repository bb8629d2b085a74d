import Derived.Test.YtgaklngnfecdaaaMgIFinds4
import Derived.Test.YtgaklngnfecdaaaMgIFinds2
import Derived.Test.YtgaklngnfecdaaaMgIFinds3

/-
  The reference of a block.
-/
namespace Go.Proofs.Ytgaklngnfecdaaa.Sha
open Go.RowKit Zk Zx
set_option linter.unusedVariables false
set_option linter.unusedSimpArgs false

theorem pureC {P : Program} {f : FuncId} {args : Array Value} {w : World} {v : Value} (h : Calls P f args w fun e w' => e = .returned v ∧ w = w') : Calls P f args w fun e w' => ∃ u, e = .returned u ∧ Like w w' ∧ u = v :=
  h.mono fun e w' ⟨h1, h2⟩ => ⟨_, h1, h2 ▸ Like.refl w, rfl⟩
theorem belowC {P : Program} {f : FuncId} {args : Array Value} {w : World} {v : Value} (h : Calls P f args w fun e w' => e = .returned v ∧ Below w.heap.size w w') : Calls P f args w fun e w' => ∃ u, e = .returned u ∧ Like w w' ∧ u = v :=
  h.mono fun e w' ⟨h1, h2⟩ => ⟨_, h1, h2, rfl⟩
theorem blockS_comm (v : Go.Proofs.Ytgaklngnfecdaaa.Sha.St) (b : List UInt8) : [v.a + (rounds (sched b 64) v 64).a, v.b + (rounds (sched b 64) v 64).b, v.c + (rounds (sched b 64) v 64).c, v.d + (rounds (sched b 64) v 64).d, v.e + (rounds (sched b 64) v 64).e, v.f + (rounds (sched b 64) v 64).f, v.g + (rounds (sched b 64) v 64).g, v.h + (rounds (sched b 64) v 64).h] = (blockS v b).list := by
  simp only [blockS]
  generalize rounds (sched b 64) v 64 = R
  simp only [St.add, St.list, UInt32.add_comm]
def z8 : List UInt32 := List.replicate 8 0
theorem shr3F (x : UInt32) : Int.fdiv (N x) (2 ^ (min (3 : Int).toNat IntKind.u32.bits)) = N (x >>> 3) := by
  rw [← shr3N]
  exact Int.fdiv_eq_ediv_of_nonneg _ (by decide)
theorem shr10F (x : UInt32) : Int.fdiv (N x) (2 ^ (min (10 : Int).toNat IntKind.u32.bits)) = N (x >>> 10) := by
  rw [← shr10N]
  exact Int.fdiv_eq_ediv_of_nonneg _ (by decide)
theorem wordR (b : List UInt8) (t : Nat) : IntKind.u32.wrap (((g8 b (4 * t) * 256 % 4294967296 + g8 b (4 * t + 1)) % 4294967296 * 65536 % 4294967296 + g8 b (4 * t + 2) * 256 % 4294967296) % 4294967296 + g8 b (4 * t + 3)) = N (word b t) := by
  have h0 := (b.getD (4 * t) 0).toNat_lt
  have h1 := (b.getD (4 * t + 1) 0).toNat_lt
  have h2 := (b.getD (4 * t + 2) 0).toNat_lt
  have h3 := (b.getD (4 * t + 3) 0).toNat_lt
  rw [IntKind.wrap_u32]
  unfold g8 N word
  rw [UInt32.toNat_ofNat']
  omega


set_option maxRecDepth 100000 in
theorem refconst (w0 : World) :
    Calls Try.prog 158 #[] w0 fun e w' => ∃ v, e = .returned v ∧ Like w0 w' ∧ ∃ A m c, v = .slice A m c ∧ m = 64 ∧ w'.ownsRow w0.heap.size 60 1 (.slice A m c) m (uL kL) := by
  refine enter1 (env := []) [] Try.func158 rfl Try.ntmps158 rfl rfl ?_
  have S0 := St.start w0 noM
  refine T_seq fun K1 hK1 => ?_
  refine T_region ?_
  refine L_y (y_assign rfl) rfl ?_
  refine L_nil ?_
  refine hK1 _ _ ?_
  refine T_seq fun K2 hK2 => ?_
  refine T_region ?_
  refine L_o (o_bsl [_, _, _, _, _, _, _, _, _, _, _, _, _, _, _, _, _, _, _, _, _, _, _, _, _, _, _, _, _, _, _, _, _, _, _, _, _, _, _, _, _, _, _, _, _, _, _, _, _, _, _, _, _, _, _, _, _, _, _, _, _, _, _, _] te221 zz60 S0 rfl rfl rfl rfl rfl rfl rfl rfl fun b1 w1 S1 => ?_)
  refine L_y (y_assign rfl) rfl ?_
  refine L_nil ?_
  refine hK2 _ _ ?_
  refine T_ret ?_
  repeat (first | with_reducible refine up_then ?_ | with_reducible refine up_in ?_)
  refine ret1 rfl rfl ?_
  exact ⟨_, rfl, S1.like0, _, _, _, rfl, rfl, (S1.rowc 0 rfl (xs' := uL kL) rfl (by kernel_rfl)).own 0 rfl⟩


set_option maxRecDepth 100000 in
theorem refblock (v : Go.Proofs.Ytgaklngnfecdaaa.Sha.St) (b : List UInt8) (B : Option Addr) (n cb : Nat) (hn : n = 64) (w0 : World) (hb : Rs w0 1 B n cb (bL b)) :
    Calls Try.prog 123 #[.agg (uA v.list), .slice B n cb] w0 fun e w' => ∃ u, e = .returned u ∧ Like w0 w' ∧ u = .agg (uA (blockS v b).list) := by
  refine enter1 (env := [(0, .agg (uA v.list)), (1, .slice B n cb)]) [.agg (uA v.list), .slice B n cb] Try.func123 rfl Try.ntmps123 rfl rfl ?_
  have S0 := St.start w0 noM
  refine T_seq fun K1 hK1 => ?_
  refine T_region ?_
  refine L_o (o_box rfl S0 rfl fun b1 w1 hb1 S1 => ?_)
  refine L_o (o_alloc zz185 S1 rfl fun b2 w2 hb2 S2 => ?_)
  refine L_nil ?_
  refine hK1 _ _ ?_
  refine T_seq fun K2 hK2 => ?_
  refine T_region ?_
  refine L_o (o_call Try.func158 rfl rfl (refconst _) rfl rfl ?_)
  rintro e3 w3 ⟨v3, rfl, l3, A3, m3, c3, rfl, rfl, o3⟩
  refine ⟨_, rfl, ?_⟩
  have S3 := S2.adopt l3 o3
  refine L_y (y_assign rfl) rfl ?_
  refine L_nil ?_
  refine hK2 _ _ ?_
  refine T_seq fun K3 hK3 => ?_
  refine T_region ?_
  have S4 := S3.nilrow 60 1
  refine L_y (y_assign rfl) rfl ?_
  refine L_nil ?_
  refine hK3 _ _ ?_
  refine T_seq fun K4 hK4 => ?_
  refine T_seq fun K5 hK5 => ?_
  refine T_region ?_
  refine L_y (y_assign rfl) rfl ?_
  refine L_nil ?_
  refine hK5 _ _ ?_
  refine T_block ?_
  refine T_loop3 [(1, _), (2, _), (4, _), (5, _)] (fun (k : Nat) (A : Option Addr) (c : Nat) => [(6, .slice A k c), (7, .int .i64 (k : Int))]) (fun (k : Nat) (A : Option Addr) (c : Nat) => 16 - k) (fun (k : Nat) (A : Option Addr) (c : Nat) (w : World) => k ≤ 16 ∧ Zx.St w0 noM [blk b1 185 (uA v.list), blk b2 185 (uA z8), row 60 1 A3 64 c3 (uL kL), row 60 1 A k c (uL (sched b k))] w) 0 none 0 (Sub.cons rfl (by first | rfl | exact congrArg (Value.int _) (by omega)) (Sub.cons rfl (by first | rfl | exact congrArg (Value.int _) (by omega)) (Sub.nil _))) (Sub.cons rfl rfl (Sub.cons rfl rfl (Sub.cons rfl rfl (Sub.cons rfl rfl (Sub.nil _))))) ?_ ?_
  ·
    exact ⟨Nat.zero_le _, S4⟩
  ·
    intro k A c w5 hrel
    obtain ⟨hk, S5⟩ := hrel
    refine T_seq fun K6 hK6 => ?_
    refine T_seq fun K7 hK7 => ?_
    refine T_region ?_
    refine L_y (y_move rfl) rfl ?_
    refine L_y (y_lss rfl rfl) rfl ?_
    refine L_nil ?_
    refine hK7 _ _ ?_
    refine T_cond rfl (fun h26 => ?_) (fun h26 => ?_)
    ·
      have hlt : k < 16 := by omega
      refine T_skip ?_
      refine hK6 _ _ ?_
      refine T_seq fun K8 hK8 => ?_
      refine T_block ?_
      refine T_zed [0, 1, 2, 3, 4, 5, 6, 7, 8, 9, 10, 11, 12, 13, 14, 15, 16, 17, 18, 19, 20, 21, 22, 23, 24, 25, 26, 27, 28, 29, 30, 31, 32, 33, 34] 35 [(0, 1), (1, 1), (2, 1), (3, 1), (4, 1), (5, 1), (6, 1), (7, 1), (8, 1), (9, 1), (10, 1), (11, 1), (12, 1), (13, 1), (14, 1), (15, 1), (16, 1), (17, 1), (18, 1), (19, 1), (20, 1), (21, 1), (22, 1), (23, 1), (24, 1), (25, 1), (26, 1), (27, 1), (28, 1), (29, 1), (30, 1), (31, 1), (32, 1), (33, 1), (34, 2), (35, 3), (36, 3)] hmix (by kernel_rfl) fun w6 l6 => ?_
      have S6 := S5.like l6
      refine ZA_B (Like w6) (Like.refl _) ?_
      refine ZB_y rfl (y_move rfl) rfl ?_
      refine ZB_y rfl (y_move rfl) rfl ?_
      refine ZB_y rfl (y_move rfl) rfl ?_
      refine ZB_y rfl (y_mul rfl rfl (i64w (by omega))) rfl ?_
      refine ZB_y rfl (y_idx Try.underlying27 sz5 rfl rfl (by first | exact S6.rd hb | exact S6.row 2 rfl | exact S6.row 3 rfl) inferInstance (by omega)) rfl ?_
      refine ZB_yb rfl (y_ldb Try.underlying5 rfl rfl (by first | exact S6.rd hb | exact S6.row 2 rfl | exact S6.row 3 rfl) (by omega)) rfl fun _ _ => ?_
      refine ZB_y rfl (y_conv is5 Try.underlying60 rfl (u32w (by omega))) rfl ?_
      refine ZB_y rfl (y_mul rfl rfl (IntKind.wrap_u32 _)) rfl ?_
      refine ZB_y rfl (y_move rfl) rfl ?_
      refine ZB_y rfl (y_move rfl) rfl ?_
      refine ZB_y rfl (y_mul rfl rfl (i64w (by omega))) rfl ?_
      refine ZB_y rfl (y_add rfl rfl (i64w (by omega))) rfl ?_
      refine ZB_y rfl (y_idx Try.underlying27 sz5 rfl rfl (by first | exact S6.rd hb | exact S6.row 2 rfl | exact S6.row 3 rfl) inferInstance (by omega)) rfl ?_
      refine ZB_yb rfl (y_ldb Try.underlying5 rfl rfl (by first | exact S6.rd hb | exact S6.row 2 rfl | exact S6.row 3 rfl) (by omega)) rfl fun _ _ => ?_
      refine ZB_y rfl (y_conv is5 Try.underlying60 rfl (u32w (by omega))) rfl ?_
      refine ZB_y rfl (y_add rfl rfl (IntKind.wrap_u32 _)) rfl ?_
      refine ZB_y rfl (y_mul rfl rfl (IntKind.wrap_u32 _)) rfl ?_
      refine ZB_y rfl (y_move rfl) rfl ?_
      refine ZB_y rfl (y_move rfl) rfl ?_
      refine ZB_y rfl (y_mul rfl rfl (i64w (by omega))) rfl ?_
      refine ZB_y rfl (y_add rfl rfl (i64w (by omega))) rfl ?_
      refine ZB_y rfl (y_idx Try.underlying27 sz5 rfl rfl (by first | exact S6.rd hb | exact S6.row 2 rfl | exact S6.row 3 rfl) inferInstance (by omega)) rfl ?_
      refine ZB_yb rfl (y_ldb Try.underlying5 rfl rfl (by first | exact S6.rd hb | exact S6.row 2 rfl | exact S6.row 3 rfl) (by omega)) rfl fun _ _ => ?_
      refine ZB_y rfl (y_conv is5 Try.underlying60 rfl (u32w (by omega))) rfl ?_
      refine ZB_y rfl (y_mul rfl rfl (IntKind.wrap_u32 _)) rfl ?_
      refine ZB_y rfl (y_add rfl rfl (IntKind.wrap_u32 _)) rfl ?_
      refine ZB_y rfl (y_move rfl) rfl ?_
      refine ZB_y rfl (y_move rfl) rfl ?_
      refine ZB_y rfl (y_mul rfl rfl (i64w (by omega))) rfl ?_
      refine ZB_y rfl (y_add rfl rfl (i64w (by omega))) rfl ?_
      refine ZB_y rfl (y_idx Try.underlying27 sz5 rfl rfl (by first | exact S6.rd hb | exact S6.row 2 rfl | exact S6.row 3 rfl) inferInstance (by omega)) rfl ?_
      refine ZB_yb rfl (y_ldb Try.underlying5 rfl rfl (by first | exact S6.rd hb | exact S6.row 2 rfl | exact S6.row 3 rfl) (by omega)) rfl fun _ _ => ?_
      refine ZB_y rfl (y_conv is5 Try.underlying60 rfl (u32w (by omega))) rfl ?_
      refine ZB_y rfl (y_add rfl rfl (wordR _ _)) rfl ?_
      refine ZB_o rfl (o_bslL [_] te221 zz60 S6 rfl rfl rfl rfl rfl rfl rfl rfl fun b7 w7 l7 S7 => ?_)
      have q7 := l7
      refine ⟨q7, ?_⟩
      refine ZB_c rfl (o_app te221 S7 3 rfl rfl rfl (by first | exact S7.rd hb | exact S7.row 2 rfl | exact S7.row 3 rfl | exact S7.row 4 rfl) (by first | exact uL_one _ | exact bL_one _ | exact iL_one _ | (intro u hu; simp at hu; subst hu; rfl) | (simp; done) | (simp [Value.oneCell']; done)) rfl (by omega) (by omega) fun A8 c8 w8 S8 => ?_)
      have S8d := S8.drop (rs' := [_, _, _, _]) (.cons_cons _ (.cons_cons _ (.cons_cons _ (.cons_cons _ (.cons _ (.refl _))))))
      refine ZA_oy rfl (y_assign rfl) rfl ?_
      refine ZA_nil ?_
      refine hK8 _ _ ?_
      refine T_region ?_
      refine L_y (y_move rfl) rfl ?_
      refine L_y (y_add rfl rfl (i64w (by omega))) rfl ?_
      refine L_y (y_assign rfl) rfl ?_
      refine L_nil ?_
      have S9 := S8d.rowc 3 rfl (n' := k + 1) (xs' := uL (sched b (k + 1))) rfl (by simp [sched, uL, uV, hlt])
      refine ⟨k + 1, _, _, by omega, ⟨by omega, S9⟩, ?_⟩
      exact (Sub.cons rfl (by first | rfl | exact congrArg (Value.int _) (by omega)) (Sub.cons rfl (by first | rfl | exact congrArg (Value.int _) (by omega)) (Sub.cons rfl rfl (Sub.cons rfl rfl (Sub.cons rfl rfl (Sub.cons rfl rfl (Sub.nil _)))))))
    ·
      obtain rfl : k = 16 := by omega
      refine T_exit ?_
      refine hK4 _ _ ?_
      refine T_seq fun K9 hK9 => ?_
      refine T_seq fun K10 hK10 => ?_
      refine T_region ?_
      refine L_y (y_assign rfl) rfl ?_
      refine L_nil ?_
      refine hK10 _ _ ?_
      refine T_block ?_
      refine T_loop3 [(2, _), (4, _), (5, _)] (fun (k : Nat) (A : Option Addr) (c : Nat) => [(6, .slice A k c), (8, .int .i64 (k : Int))]) (fun (k : Nat) (A : Option Addr) (c : Nat) => 64 - k) (fun (k : Nat) (A : Option Addr) (c : Nat) (w : World) => 16 ≤ k ∧ k ≤ 64 ∧ Zx.St w0 noM [blk b1 185 (uA v.list), blk b2 185 (uA z8), row 60 1 A3 64 c3 (uL kL), row 60 1 A k c (uL (sched b k))] w) 16 A c (Sub.cons rfl (by first | rfl | exact congrArg (Value.int _) (by omega)) (Sub.cons rfl (by first | rfl | exact congrArg (Value.int _) (by omega)) (Sub.nil _))) (Sub.cons rfl rfl (Sub.cons rfl rfl (Sub.cons rfl rfl (Sub.nil _)))) ?_ ?_
      ·
        exact ⟨by omega, by omega, S5⟩
      ·
        intro k A c w9 hrel
        obtain ⟨hk1, hk2, S9⟩ := hrel
        refine T_seq fun K11 hK11 => ?_
        refine T_seq fun K12 hK12 => ?_
        refine T_region ?_
        refine L_y (y_move rfl) rfl ?_
        refine L_y (y_lss rfl rfl) rfl ?_
        refine L_nil ?_
        refine hK12 _ _ ?_
        refine T_cond rfl (fun h66 => ?_) (fun h66 => ?_)
        ·
          have hlt : k < 64 := by omega
          have hge : ¬ k < 16 := by omega
          refine T_skip ?_
          refine hK11 _ _ ?_
          refine T_seq fun K13 hK13 => ?_
          refine T_block ?_
          refine T_seq fun K14 hK14 => ?_
          refine T_region ?_
          refine L_y (y_move rfl) rfl ?_
          refine L_y (y_move rfl) rfl ?_
          refine L_y (y_sub rfl rfl (i64w (by omega))) rfl ?_
          refine L_y (y_idx Try.underlying221 sz60 rfl rfl (by first | exact S9.rd hb | exact S9.row 2 rfl | exact S9.row 3 rfl) (Nt.mk (by omega) : Nt _ (k - 15)) (by omega)) rfl ?_
          refine L_y (y_ldg (0 : UInt32) Try.underlying60 rfl rfl (by first | exact S9.rd hb | exact S9.row 2 rfl | exact S9.row 3 rfl) (by omega)) rfl ?_
          refine L_y (y_assign rfl) rfl ?_
          refine L_nil ?_
          refine hK14 _ _ ?_
          refine T_seq fun K15 hK15 => ?_
          refine T_region ?_
          refine L_y (y_move rfl) rfl ?_
          refine L_y (y_move rfl) rfl ?_
          refine L_y (y_sub rfl rfl (i64w (by omega))) rfl ?_
          refine L_y (y_idx Try.underlying221 sz60 rfl rfl (by first | exact S9.rd hb | exact S9.row 2 rfl | exact S9.row 3 rfl) (Nt.mk (by omega) : Nt _ (k - 2)) (by omega)) rfl ?_
          refine L_y (y_ldg (0 : UInt32) Try.underlying60 rfl rfl (by first | exact S9.rd hb | exact S9.row 2 rfl | exact S9.row 3 rfl) (by omega)) rfl ?_
          refine L_y (y_assign rfl) rfl ?_
          refine L_nil ?_
          refine hK15 _ _ ?_
          refine T_seq fun K16 hK16 => ?_
          refine T_region ?_
          refine L_y (y_move rfl) rfl ?_
          refine L_o (o_call Try.func159 rfl rfl (pureC (right7 _ _)) rfl rfl ?_)
          rintro e10 w10 ⟨v10, rfl, l10, rfl⟩
          refine ⟨_, rfl, ?_⟩
          have S10 := S9.like l10
          refine L_y (y_move rfl) rfl ?_
          refine L_o (o_call Try.func159 rfl rfl (pureC (right18 _ _)) rfl rfl ?_)
          rintro e11 w11 ⟨v11, rfl, l11, rfl⟩
          refine ⟨_, rfl, ?_⟩
          have S11 := S10.like l11
          refine L_y (y_bits rfl rfl rfl (xorN _ _)) rfl ?_
          refine L_y (y_move rfl) rfl ?_
          refine L_y (y_shr rfl rfl (by omega) (shr3F _)) rfl ?_
          refine L_y (y_bits rfl rfl rfl (xorN _ _)) rfl ?_
          refine L_y (y_assign rfl) rfl ?_
          refine L_nil ?_
          refine hK16 _ _ ?_
          refine T_seq fun K17 hK17 => ?_
          refine T_region ?_
          refine L_y (y_move rfl) rfl ?_
          refine L_o (o_call Try.func159 rfl rfl (pureC (right17 _ _)) rfl rfl ?_)
          rintro e12 w12 ⟨v12, rfl, l12, rfl⟩
          refine ⟨_, rfl, ?_⟩
          have S12 := S11.like l12
          refine L_y (y_move rfl) rfl ?_
          refine L_o (o_call Try.func159 rfl rfl (pureC (right19 _ _)) rfl rfl ?_)
          rintro e13 w13 ⟨v13, rfl, l13, rfl⟩
          refine ⟨_, rfl, ?_⟩
          have S13 := S12.like l13
          refine L_y (y_bits rfl rfl rfl (xorN _ _)) rfl ?_
          refine L_y (y_move rfl) rfl ?_
          refine L_y (y_shr rfl rfl (by omega) (shr10F _)) rfl ?_
          refine L_y (y_bits rfl rfl rfl (xorN _ _)) rfl ?_
          refine L_y (y_assign rfl) rfl ?_
          refine L_nil ?_
          refine hK17 _ _ ?_
          refine T_zed [0, 1, 2, 3, 4, 5, 6, 7, 8, 9, 10, 11, 12, 13, 14, 15, 16] 17 [(0, 1), (1, 1), (2, 1), (3, 1), (4, 1), (5, 1), (6, 1), (7, 1), (8, 1), (9, 1), (10, 1), (11, 1), (12, 1), (13, 1), (14, 1), (15, 1), (16, 2), (17, 3), (18, 3)] hmix (by kernel_rfl) fun w14 l14 => ?_
          have S14 := S13.like l14
          refine ZA_B (Like w14) (Like.refl _) ?_
          refine ZB_y rfl (y_move rfl) rfl ?_
          refine ZB_y rfl (y_move rfl) rfl ?_
          refine ZB_y rfl (y_move rfl) rfl ?_
          refine ZB_y rfl (y_sub rfl rfl (i64w (by omega))) rfl ?_
          refine ZB_y rfl (y_idx Try.underlying221 sz60 rfl rfl (by first | exact S14.rd hb | exact S14.row 2 rfl | exact S14.row 3 rfl) (Nt.mk (by omega) : Nt _ (k - 16)) (by omega)) rfl ?_
          refine ZB_y rfl (y_ldg (0 : UInt32) Try.underlying60 rfl rfl (by first | exact S14.rd hb | exact S14.row 2 rfl | exact S14.row 3 rfl) (by omega)) rfl ?_
          refine ZB_y rfl (y_move rfl) rfl ?_
          refine ZB_y rfl (y_add rfl rfl (addW _ _)) rfl ?_
          refine ZB_y rfl (y_move rfl) rfl ?_
          refine ZB_y rfl (y_move rfl) rfl ?_
          refine ZB_y rfl (y_sub rfl rfl (i64w (by omega))) rfl ?_
          refine ZB_y rfl (y_idx Try.underlying221 sz60 rfl rfl (by first | exact S14.rd hb | exact S14.row 2 rfl | exact S14.row 3 rfl) (Nt.mk (by omega) : Nt _ (k - 7)) (by omega)) rfl ?_
          refine ZB_y rfl (y_ldg (0 : UInt32) Try.underlying60 rfl rfl (by first | exact S14.rd hb | exact S14.row 2 rfl | exact S14.row 3 rfl) (by omega)) rfl ?_
          refine ZB_y rfl (y_add rfl rfl (addW _ _)) rfl ?_
          refine ZB_y rfl (y_move rfl) rfl ?_
          refine ZB_y rfl (y_add rfl rfl (addW _ _)) rfl ?_
          refine ZB_o rfl (o_bslL [_] te221 zz60 S14 rfl rfl rfl rfl rfl rfl rfl rfl fun b15 w15 l15 S15 => ?_)
          have q15 := l15
          refine ⟨q15, ?_⟩
          refine ZB_c rfl (o_app te221 S15 3 rfl rfl rfl (by first | exact S15.rd hb | exact S15.row 2 rfl | exact S15.row 3 rfl | exact S15.row 4 rfl) (by first | exact uL_one _ | exact bL_one _ | exact iL_one _ | (intro u hu; simp at hu; subst hu; rfl) | (simp; done) | (simp [Value.oneCell']; done)) rfl (by omega) (by omega) fun A16 c16 w16 S16 => ?_)
          have S16d := S16.drop (rs' := [_, _, _, _]) (.cons_cons _ (.cons_cons _ (.cons_cons _ (.cons_cons _ (.cons _ (.refl _))))))
          refine ZA_oy rfl (y_assign rfl) rfl ?_
          refine ZA_nil ?_
          refine hK13 _ _ ?_
          refine T_region ?_
          refine L_y (y_move rfl) rfl ?_
          refine L_y (y_add rfl rfl (i64w (by omega))) rfl ?_
          refine L_y (y_assign rfl) rfl ?_
          refine L_nil ?_
          have S9 := S16d.rowc 3 rfl (n' := k + 1) (xs' := uL (sched b (k + 1))) rfl (by simp only [sched, if_neg hge]; rw [uL_app]; rfl)
          refine ⟨k + 1, _, _, by omega, ⟨by omega, by omega, S9⟩, ?_⟩
          exact (Sub.cons rfl (by first | rfl | exact congrArg (Value.int _) (by omega)) (Sub.cons rfl (by first | rfl | exact congrArg (Value.int _) (by omega)) (Sub.cons rfl rfl (Sub.cons rfl rfl (Sub.cons rfl rfl (Sub.nil _))))))
        ·
          obtain rfl : k = 64 := by omega
          refine T_exit ?_
          refine hK9 _ _ ?_
          refine T_seq fun K18 hK18 => ?_
          refine T_drawnL [(0, true), (1, true), (2, true), (3, true), (4, true), (5, true), (6, true), (7, true), (8, true), (9, true), (10, true), (11, true), (12, true), (13, true), (14, true), (15, true), (16, true), (17, true), (18, true), (19, true), (20, true), (21, true), (22, true), (23, true)] hmix (by kernel_rfl) fun w17 l17 => ?_
          have S17 := S9.like l17
          refine DL_y rfl (y_idxA0 Try.underlying185 sz60 rfl rfl inferInstance (by omega)) rfl ?_
          refine DL_y rfl (y_ldc Try.underlying60 rfl rfl (((S17.blk 0 rfl).cell _).trans (show _ = some (uV v.a) from rfl))) rfl ?_
          refine DL_y rfl (y_idxA0 Try.underlying185 sz60 rfl rfl inferInstance (by omega)) rfl ?_
          refine DL_y rfl (y_ldc Try.underlying60 rfl rfl (((S17.blk 0 rfl).cell _).trans (show _ = some (uV v.b) from rfl))) rfl ?_
          refine DL_y rfl (y_idxA0 Try.underlying185 sz60 rfl rfl inferInstance (by omega)) rfl ?_
          refine DL_y rfl (y_ldc Try.underlying60 rfl rfl (((S17.blk 0 rfl).cell _).trans (show _ = some (uV v.c) from rfl))) rfl ?_
          refine DL_y rfl (y_idxA0 Try.underlying185 sz60 rfl rfl inferInstance (by omega)) rfl ?_
          refine DL_y rfl (y_ldc Try.underlying60 rfl rfl (((S17.blk 0 rfl).cell _).trans (show _ = some (uV v.d) from rfl))) rfl ?_
          refine DL_y rfl (y_idxA0 Try.underlying185 sz60 rfl rfl inferInstance (by omega)) rfl ?_
          refine DL_y rfl (y_ldc Try.underlying60 rfl rfl (((S17.blk 0 rfl).cell _).trans (show _ = some (uV v.e) from rfl))) rfl ?_
          refine DL_y rfl (y_idxA0 Try.underlying185 sz60 rfl rfl inferInstance (by omega)) rfl ?_
          refine DL_y rfl (y_ldc Try.underlying60 rfl rfl (((S17.blk 0 rfl).cell _).trans (show _ = some (uV v.f) from rfl))) rfl ?_
          refine DL_y rfl (y_idxA0 Try.underlying185 sz60 rfl rfl inferInstance (by omega)) rfl ?_
          refine DL_y rfl (y_ldc Try.underlying60 rfl rfl (((S17.blk 0 rfl).cell _).trans (show _ = some (uV v.g) from rfl))) rfl ?_
          refine DL_y rfl (y_idxA0 Try.underlying185 sz60 rfl rfl inferInstance (by omega)) rfl ?_
          refine DL_y rfl (y_ldc Try.underlying60 rfl rfl (((S17.blk 0 rfl).cell _).trans (show _ = some (uV v.h) from rfl))) rfl ?_
          refine DL_y rfl (y_assign rfl) rfl ?_
          refine DL_y rfl (y_assign rfl) rfl ?_
          refine DL_y rfl (y_assign rfl) rfl ?_
          refine DL_y rfl (y_assign rfl) rfl ?_
          refine DL_y rfl (y_assign rfl) rfl ?_
          refine DL_y rfl (y_assign rfl) rfl ?_
          refine DL_y rfl (y_assign rfl) rfl ?_
          refine DL_y rfl (y_assign rfl) rfl ?_
          refine DL_nil ?_
          refine hK18 _ _ ?_
          refine T_seq fun K19 hK19 => ?_
          refine T_seq fun K20 hK20 => ?_
          refine T_region ?_
          refine L_y (y_assign rfl) rfl ?_
          refine L_nil ?_
          refine hK20 _ _ ?_
          refine T_block ?_
          refine T_loop1 [(2, _), (4, _), (5, _), (6, _)] (fun (t : Nat) => [(13, .int .u32 (N (rounds (sched b 64) v t).a)), (14, .int .u32 (N (rounds (sched b 64) v t).b)), (15, .int .u32 (N (rounds (sched b 64) v t).c)), (16, .int .u32 (N (rounds (sched b 64) v t).d)), (17, .int .u32 (N (rounds (sched b 64) v t).e)), (18, .int .u32 (N (rounds (sched b 64) v t).f)), (19, .int .u32 (N (rounds (sched b 64) v t).g)), (20, .int .u32 (N (rounds (sched b 64) v t).h)), (21, .int .i64 (t : Int))]) (fun (t : Nat) => 64 - t) (fun (t : Nat) (w : World) => t ≤ 64 ∧ Zx.St w0 noM [blk b1 185 (uA v.list), blk b2 185 (uA z8), row 60 1 A3 64 c3 (uL kL), row 60 1 A 64 c (uL (sched b 64))] w) 0 (Sub.cons rfl (by first | rfl | exact congrArg (Value.int _) (by omega)) (Sub.cons rfl (by first | rfl | exact congrArg (Value.int _) (by omega)) (Sub.cons rfl (by first | rfl | exact congrArg (Value.int _) (by omega)) (Sub.cons rfl (by first | rfl | exact congrArg (Value.int _) (by omega)) (Sub.cons rfl (by first | rfl | exact congrArg (Value.int _) (by omega)) (Sub.cons rfl (by first | rfl | exact congrArg (Value.int _) (by omega)) (Sub.cons rfl (by first | rfl | exact congrArg (Value.int _) (by omega)) (Sub.cons rfl (by first | rfl | exact congrArg (Value.int _) (by omega)) (Sub.cons rfl (by first | rfl | exact congrArg (Value.int _) (by omega)) (Sub.nil _)))))))))) (Sub.cons rfl rfl (Sub.cons rfl rfl (Sub.cons rfl rfl (Sub.cons rfl rfl (Sub.nil _))))) ?_ ?_
          ·
            exact ⟨by omega, S17⟩
          ·
            intro t w18 hrel
            obtain ⟨ht, S18⟩ := hrel
            refine T_seq fun K21 hK21 => ?_
            refine T_seq fun K22 hK22 => ?_
            refine T_region ?_
            refine L_y (y_move rfl) rfl ?_
            refine L_y (y_lss rfl rfl) rfl ?_
            refine L_nil ?_
            refine hK22 _ _ ?_
            refine T_cond rfl (fun h130 => ?_) (fun h130 => ?_)
            ·
              refine T_skip ?_
              refine hK21 _ _ ?_
              refine T_seq fun K23 hK23 => ?_
              refine T_block ?_
              refine T_seq fun K24 hK24 => ?_
              refine T_drawnL [(0, true), (1, true), (3, true), (6, true), (10, true), (11, true), (12, true), (13, true), (14, true), (15, true), (16, true), (17, true), (19, true), (20, true), (21, true), (22, true), (24, true), (25, true), (26, true), (27, true), (2, false), (4, false), (5, true), (7, false), (8, true), (9, true), (18, true), (23, true), (28, true), (29, true)] hmix (by kernel_rfl) fun w19 l19 => ?_
              have S19 := S18.like l19
              refine DL_y rfl (y_move rfl) rfl ?_
              refine DL_y rfl (y_move rfl) rfl ?_
              refine DL_y rfl (y_move rfl) rfl ?_
              refine DL_y rfl (y_move rfl) rfl ?_
              refine DL_y rfl (y_move rfl) rfl ?_
              refine DL_y rfl (y_move rfl) rfl ?_
              refine DL_y rfl (y_bits rfl rfl rfl (andN _ _)) rfl ?_
              refine DL_y rfl (y_move rfl) rfl ?_
              refine DL_y rfl (y_inv rfl (notN _)) rfl ?_
              refine DL_y rfl (y_move rfl) rfl ?_
              refine DL_y rfl (y_bits rfl rfl rfl (andN _ _)) rfl ?_
              refine DL_y rfl (y_bits rfl rfl rfl (xorN _ _)) rfl ?_
              refine DL_y rfl (y_move rfl) rfl ?_
              refine DL_y rfl (y_move rfl) rfl ?_
              refine DL_y rfl (y_idx Try.underlying221 sz60 rfl rfl (by first | exact S19.rd hb | exact S19.row 2 rfl | exact S19.row 3 rfl) inferInstance (by omega)) rfl ?_
              refine DL_y rfl (y_ldg (0 : UInt32) Try.underlying60 rfl rfl (by first | exact S19.rd hb | exact S19.row 2 rfl | exact S19.row 3 rfl) (by omega)) rfl ?_
              refine DL_y rfl (y_move rfl) rfl ?_
              refine DL_y rfl (y_move rfl) rfl ?_
              refine DL_y rfl (y_idx Try.underlying221 sz60 rfl rfl (by first | exact S19.rd hb | exact S19.row 2 rfl | exact S19.row 3 rfl) inferInstance (by omega)) rfl ?_
              refine DL_y rfl (y_ldg (0 : UInt32) Try.underlying60 rfl rfl (by first | exact S19.rd hb | exact S19.row 2 rfl | exact S19.row 3 rfl) (by omega)) rfl ?_
              refine DL_o rfl (o_call Try.func159 rfl rfl (pureC (right6 _ _)) rfl rfl ?_)
              rintro e20 w20 ⟨v20, rfl, l20, rfl⟩
              refine ⟨_, rfl, l20, ?_⟩
              have S20 := S19.like l20
              have q20 := l20
              refine DL_o rfl (o_call Try.func159 rfl rfl (pureC (right11 _ _)) rfl rfl ?_)
              rintro e21 w21 ⟨v21, rfl, l21, rfl⟩
              refine ⟨_, rfl, (Like.trans q20 l21), ?_⟩
              have S21 := S20.like l21
              have q21 := (Like.trans q20 l21)
              refine DL_y rfl (y_bits rfl rfl rfl (xorN _ _)) rfl ?_
              refine DL_o rfl (o_call Try.func159 rfl rfl (pureC (right25 _ _)) rfl rfl ?_)
              rintro e22 w22 ⟨v22, rfl, l22, rfl⟩
              refine ⟨_, rfl, (Like.trans q21 l22), ?_⟩
              have S22 := S21.like l22
              have q22 := (Like.trans q21 l22)
              refine DL_y rfl (y_bits rfl rfl rfl (xorN _ _)) rfl ?_
              refine DL_y rfl (y_add rfl rfl (addW _ _)) rfl ?_
              refine DL_y rfl (y_add rfl rfl (addW _ _)) rfl ?_
              refine DL_y rfl (y_add rfl rfl (addW _ _)) rfl ?_
              refine DL_y rfl (y_add rfl rfl (addW _ _)) rfl ?_
              refine DL_y rfl (y_assign rfl) rfl ?_
              refine DL_nil ?_
              refine hK24 _ _ ?_
              refine T_seq fun K25 hK25 => ?_
              refine T_region ?_
              refine L_y (y_move rfl) rfl ?_
              refine L_o (o_call Try.func159 rfl rfl (pureC (right2 _ _)) rfl rfl ?_)
              rintro e23 w23 ⟨v23, rfl, l23, rfl⟩
              refine ⟨_, rfl, ?_⟩
              have S23 := S22.like l23
              refine L_y (y_move rfl) rfl ?_
              refine L_o (o_call Try.func159 rfl rfl (pureC (right13 _ _)) rfl rfl ?_)
              rintro e24 w24 ⟨v24, rfl, l24, rfl⟩
              refine ⟨_, rfl, ?_⟩
              have S24 := S23.like l24
              refine L_y (y_bits rfl rfl rfl (xorN _ _)) rfl ?_
              refine L_y (y_move rfl) rfl ?_
              refine L_o (o_call Try.func159 rfl rfl (pureC (right22 _ _)) rfl rfl ?_)
              rintro e25 w25 ⟨v25, rfl, l25, rfl⟩
              refine ⟨_, rfl, ?_⟩
              have S25 := S24.like l25
              refine L_y (y_bits rfl rfl rfl (xorN _ _)) rfl ?_
              refine L_y (y_move rfl) rfl ?_
              refine L_y (y_move rfl) rfl ?_
              refine L_y (y_bits rfl rfl rfl (andN _ _)) rfl ?_
              refine L_y (y_move rfl) rfl ?_
              refine L_y (y_move rfl) rfl ?_
              refine L_y (y_bits rfl rfl rfl (andN _ _)) rfl ?_
              refine L_y (y_bits rfl rfl rfl (xorN _ _)) rfl ?_
              refine L_y (y_move rfl) rfl ?_
              refine L_y (y_move rfl) rfl ?_
              refine L_y (y_bits rfl rfl rfl (andN _ _)) rfl ?_
              refine L_y (y_bits rfl rfl rfl (xorN _ _)) rfl ?_
              refine L_y (y_add rfl rfl (addW _ _)) rfl ?_
              refine L_y (y_assign rfl) rfl ?_
              refine L_nil ?_
              refine hK25 _ _ ?_
              refine T_seq fun K26 hK26 => ?_
              refine T_region ?_
              refine L_y (y_move rfl) rfl ?_
              refine L_y (y_assign rfl) rfl ?_
              refine L_nil ?_
              refine hK26 _ _ ?_
              refine T_seq fun K27 hK27 => ?_
              refine T_region ?_
              refine L_y (y_move rfl) rfl ?_
              refine L_y (y_assign rfl) rfl ?_
              refine L_nil ?_
              refine hK27 _ _ ?_
              refine T_seq fun K28 hK28 => ?_
              refine T_region ?_
              refine L_y (y_move rfl) rfl ?_
              refine L_y (y_assign rfl) rfl ?_
              refine L_nil ?_
              refine hK28 _ _ ?_
              refine T_seq fun K29 hK29 => ?_
              refine T_region ?_
              refine L_y (y_move rfl) rfl ?_
              refine L_y (y_move rfl) rfl ?_
              refine L_y (y_add rfl rfl (addW _ _)) rfl ?_
              refine L_y (y_assign rfl) rfl ?_
              refine L_nil ?_
              refine hK29 _ _ ?_
              refine T_seq fun K30 hK30 => ?_
              refine T_region ?_
              refine L_y (y_move rfl) rfl ?_
              refine L_y (y_assign rfl) rfl ?_
              refine L_nil ?_
              refine hK30 _ _ ?_
              refine T_seq fun K31 hK31 => ?_
              refine T_region ?_
              refine L_y (y_move rfl) rfl ?_
              refine L_y (y_assign rfl) rfl ?_
              refine L_nil ?_
              refine hK31 _ _ ?_
              refine T_seq fun K32 hK32 => ?_
              refine T_region ?_
              refine L_y (y_move rfl) rfl ?_
              refine L_y (y_assign rfl) rfl ?_
              refine L_nil ?_
              refine hK32 _ _ ?_
              refine T_region ?_
              refine L_y (y_move rfl) rfl ?_
              refine L_y (y_move rfl) rfl ?_
              refine L_y (y_add rfl rfl (addW _ _)) rfl ?_
              refine L_y (y_assign rfl) rfl ?_
              refine L_nil ?_
              refine hK23 _ _ ?_
              refine T_region ?_
              refine L_y (y_move rfl) rfl ?_
              refine L_y (y_add rfl rfl (i64w (by omega))) rfl ?_
              refine L_y (y_assign rfl) rfl ?_
              refine L_nil ?_
              refine ⟨t + 1, by omega, ⟨by omega, S25⟩, ?_⟩
              exact (Sub.cons rfl (by first | rfl | exact congrArg (Value.int _) (by omega)) (Sub.cons rfl (by first | rfl | exact congrArg (Value.int _) (by omega)) (Sub.cons rfl (by first | rfl | exact congrArg (Value.int _) (by omega)) (Sub.cons rfl (by first | rfl | exact congrArg (Value.int _) (by omega)) (Sub.cons rfl (by first | rfl | exact congrArg (Value.int _) (by omega)) (Sub.cons rfl (by first | rfl | exact congrArg (Value.int _) (by omega)) (Sub.cons rfl (by first | rfl | exact congrArg (Value.int _) (by omega)) (Sub.cons rfl (by first | rfl | exact congrArg (Value.int _) (by omega)) (Sub.cons rfl (by first | rfl | exact congrArg (Value.int _) (by omega)) (Sub.cons rfl rfl (Sub.cons rfl rfl (Sub.cons rfl rfl (Sub.cons rfl rfl (Sub.nil _))))))))))))))
            ·
              obtain rfl : t = 64 := by omega
              have hl := blockS_comm v b
              generalize hR : rounds (sched b 64) v 64 = R at hl ⊢
              generalize hSS : sched b 64 = SS at *
              refine T_exit ?_
              refine hK19 _ _ ?_
              refine T_seq fun K33 hK33 => ?_
              refine T_region ?_
              refine L_y (y_idxA0 Try.underlying185 sz60 rfl rfl inferInstance (by omega)) rfl ?_
              refine L_y (y_ldc Try.underlying60 rfl rfl (((S18.blk 0 rfl).cell _).trans (show _ = some (uV v.a) from rfl))) rfl ?_
              refine L_y (y_move rfl) rfl ?_
              refine L_y (y_add rfl rfl (addW _ _)) rfl ?_
              refine L_y (y_idxA0 Try.underlying185 sz60 rfl rfl inferInstance (by omega)) rfl ?_
              refine L_y (y_ldc Try.underlying60 rfl rfl (((S18.blk 0 rfl).cell _).trans (show _ = some (uV v.b) from rfl))) rfl ?_
              refine L_y (y_move rfl) rfl ?_
              refine L_y (y_add rfl rfl (addW _ _)) rfl ?_
              refine L_y (y_idxA0 Try.underlying185 sz60 rfl rfl inferInstance (by omega)) rfl ?_
              refine L_y (y_ldc Try.underlying60 rfl rfl (((S18.blk 0 rfl).cell _).trans (show _ = some (uV v.c) from rfl))) rfl ?_
              refine L_y (y_move rfl) rfl ?_
              refine L_y (y_add rfl rfl (addW _ _)) rfl ?_
              refine L_y (y_idxA0 Try.underlying185 sz60 rfl rfl inferInstance (by omega)) rfl ?_
              refine L_y (y_ldc Try.underlying60 rfl rfl (((S18.blk 0 rfl).cell _).trans (show _ = some (uV v.d) from rfl))) rfl ?_
              refine L_y (y_move rfl) rfl ?_
              refine L_y (y_add rfl rfl (addW _ _)) rfl ?_
              refine L_y (y_idxA0 Try.underlying185 sz60 rfl rfl inferInstance (by omega)) rfl ?_
              refine L_y (y_ldc Try.underlying60 rfl rfl (((S18.blk 0 rfl).cell _).trans (show _ = some (uV v.e) from rfl))) rfl ?_
              refine L_y (y_move rfl) rfl ?_
              refine L_y (y_add rfl rfl (addW _ _)) rfl ?_
              refine L_y (y_idxA0 Try.underlying185 sz60 rfl rfl inferInstance (by omega)) rfl ?_
              refine L_y (y_ldc Try.underlying60 rfl rfl (((S18.blk 0 rfl).cell _).trans (show _ = some (uV v.f) from rfl))) rfl ?_
              refine L_y (y_move rfl) rfl ?_
              refine L_y (y_add rfl rfl (addW _ _)) rfl ?_
              refine L_y (y_idxA0 Try.underlying185 sz60 rfl rfl inferInstance (by omega)) rfl ?_
              refine L_y (y_ldc Try.underlying60 rfl rfl (((S18.blk 0 rfl).cell _).trans (show _ = some (uV v.g) from rfl))) rfl ?_
              refine L_y (y_move rfl) rfl ?_
              refine L_y (y_add rfl rfl (addW _ _)) rfl ?_
              refine L_y (y_idxA0 Try.underlying185 sz60 rfl rfl inferInstance (by omega)) rfl ?_
              refine L_y (y_ldc Try.underlying60 rfl rfl (((S18.blk 0 rfl).cell _).trans (show _ = some (uV v.h) from rfl))) rfl ?_
              refine L_y (y_move rfl) rfl ?_
              refine L_y (y_add rfl rfl (addW _ _)) rfl ?_
              refine L_y (y_build (cs := uA [v.a + R.a, v.b + R.b, v.c + R.c, v.d + R.d, v.e + R.e, v.f + R.f, v.g + R.g, v.h + R.h]) rfl (by kernel_rfl)) rfl ?_
              refine L_o (o_stW S18 1 rfl rfl rfl sz185 (by simp [z8]) (by first | exact uL_one _ | exact bL_one _ | exact iL_one _ | (intro u hu; simp at hu; subst hu; rfl) | (simp; done) | (simp [Value.oneCell']; done)) fun w26 S26 => ?_)
              refine L_nil ?_
              refine hK33 _ _ ?_
              refine T_ret ?_
              repeat (first | with_reducible refine up_then ?_ | with_reducible refine up_in ?_)
              refine retc rfl rfl (S26.blk 1 rfl) Try.underlying185 rfl sz185 ?_
              exact ⟨_, rfl, S26.like0, by rw [hl]⟩
end Go.Proofs.Ytgaklngnfecdaaa.Sha


/-
  The schedule, by the code, wherever the bytes lie.
-/
namespace Go.Proofs.Ytgaklngnfecdaaa.Sha
open Go.RowKit Zk Zx
set_option linter.unusedVariables false
set_option linter.unusedSimpArgs false

theorem uA_get' (l : List UInt32) (j : Nat) (h : j < l.length) : (uA l)[j]? = some (uV (l.getD j 0)) := by
  simp [uA, uL, List.getD_eq_getElem?_getD, List.getElem?_eq_getElem h]
theorem sched_cell (b : List UInt8) (k j : Nat) (h : j < k) : (uA (sched b k ++ z64.drop k))[j]? = some (uV ((sched b k).getD j 0)) := by
  rw [uA_get' _ _ (by rw [List.length_append, length_sched]; omega)]
  congr 2
  simp only [List.getD_eq_getElem?_getD]
  rw [List.getElem?_append_left (by rw [length_sched]; exact h)]
theorem sched_lay (b : List UInt8) (k : Nat) (h : k < 64) (x : UInt32) (hx : sched b (k + 1) = sched b k ++ [x]) : (uA (sched b k ++ z64.drop k)).setIfInBounds k (.int .u32 (N x)) = uA (sched b (k + 1) ++ z64.drop (k + 1)) := by
  rw [uA_set, sched_set b k h x, hx]
theorem wordE (b : List UInt8) (k : Nat) : bits BinOp.or IntKind.u32 (bits BinOp.or IntKind.u32 (bits BinOp.or IntKind.u32 (IntKind.u32.wrap (g8 b (4 * k) * 2 ^ (min (24 : Int).toNat IntKind.u32.bits))) (IntKind.u32.wrap (g8 b (4 * k + 1) * 2 ^ (min (16 : Int).toNat IntKind.u32.bits))))
    (IntKind.u32.wrap (g8 b (4 * k + 2) * 2 ^ (min (8 : Int).toNat IntKind.u32.bits)))) (g8 b (4 * k + 3)) = N (word b k) := by
  have h := wordO (b.getD (4 * k) 0) (b.getD (4 * k + 1) 0) (b.getD (4 * k + 2) 0) (b.getD (4 * k + 3) 0)
  have w : ∀ c : UInt8, IntKind.u32.wrap (c.toNat : Int) = (c.toNat : Int) := fun c => u32w ⟨by omega, by have := c.toNat_lt; omega⟩
  simp only [w] at h
  exact h


set_option maxRecDepth 100000 in
theorem spread (b : List UInt8) (B : Option Addr) (n cb : Nat) (hn : n = 64) (w0 : World) (hb : Rs w0 1 B n cb (bL b)) :
    Calls Try.prog 182 #[.slice B n cb] w0 fun e w' => ∃ u, e = .returned u ∧ Like w0 w' ∧ u = .agg (uA (sched b 64)) := by
  refine enter1 (env := [(0, .slice B n cb)]) [.slice B n cb] Try.func182 rfl Try.ntmps182 rfl rfl ?_
  have S0 := St.start w0 noM
  refine T_seq fun K1 hK1 => ?_
  refine T_region ?_
  refine L_o (o_alloc zz245 S0 rfl fun b1 w1 hb1 S1 => ?_)
  refine L_nil ?_
  refine hK1 _ _ ?_
  refine T_seq fun K2 hK2 => ?_
  refine T_region ?_
  refine L_o (o_alloc zz245 S1 rfl fun b2 w2 hb2 S2 => ?_)
  refine L_nil ?_
  refine hK2 _ _ ?_
  refine T_seq fun K3 hK3 => ?_
  refine T_seq fun K4 hK4 => ?_
  refine T_region ?_
  refine L_y (y_assign rfl) rfl ?_
  refine L_nil ?_
  refine hK4 _ _ ?_
  refine T_block ?_
  refine T_loop1 [(0, _), (2, _), (3, _)] (fun (k : Nat) => [(4, .int .i64 (k : Int))]) (fun (k : Nat) => 16 - k) (fun (k : Nat) (w : World) => k ≤ 16 ∧ Zx.St w0 noM [blk b1 245 (uA z64), blk b2 245 (uA (sched b k ++ z64.drop k))] w) 0 (Sub.cons rfl (by first | rfl | exact congrArg (Value.int _) (by omega)) (Sub.nil _)) (Sub.cons rfl rfl (Sub.cons rfl rfl (Sub.cons rfl rfl (Sub.nil _)))) ?_ ?_
  ·
    exact ⟨by omega, S2⟩
  ·
    intro k w3 hrel
    obtain ⟨hk, S3⟩ := hrel
    refine T_seq fun K5 hK5 => ?_
    refine T_seq fun K6 hK6 => ?_
    refine T_region ?_
    refine L_y (y_move rfl) rfl ?_
    refine L_y (y_lss rfl rfl) rfl ?_
    refine L_nil ?_
    refine hK6 _ _ ?_
    refine T_cond rfl (fun h11 => ?_) (fun h11 => ?_)
    ·
      have hlt : k < 16 := by omega
      refine T_skip ?_
      refine hK5 _ _ ?_
      refine T_seq fun K7 hK7 => ?_
      refine T_block ?_
      refine T_tail 35 hmix (by kernel_rfl) fun w4 l4 K8 hK8 => ?_
      have S4 := S3.like l4
      refine HL_y (y_move rfl) rfl ?_
      refine HL_y (y_move rfl) rfl ?_
      refine HL_y (y_move rfl) rfl ?_
      refine HL_y (y_mul rfl rfl (i64w (by omega))) rfl ?_
      refine HL_y (y_idx Try.underlying27 sz5 rfl rfl (by first | exact S4.rd hb) inferInstance (by omega)) rfl ?_
      refine HL_yb (y_ldb Try.underlying5 rfl rfl (by first | exact S4.rd hb) (by omega)) rfl fun _ _ => ?_
      refine HL_y (y_conv is5 Try.underlying60 rfl (u32w (by omega))) rfl ?_
      refine HL_y (y_shl rfl rfl (by omega) rfl) rfl ?_
      refine HL_y (y_move rfl) rfl ?_
      refine HL_y (y_move rfl) rfl ?_
      refine HL_y (y_mul rfl rfl (i64w (by omega))) rfl ?_
      refine HL_y (y_add rfl rfl (i64w (by omega))) rfl ?_
      refine HL_y (y_idx Try.underlying27 sz5 rfl rfl (by first | exact S4.rd hb) inferInstance (by omega)) rfl ?_
      refine HL_yb (y_ldb Try.underlying5 rfl rfl (by first | exact S4.rd hb) (by omega)) rfl fun _ _ => ?_
      refine HL_y (y_conv is5 Try.underlying60 rfl (u32w (by omega))) rfl ?_
      refine HL_y (y_shl rfl rfl (by omega) rfl) rfl ?_
      refine HL_y (y_bits rfl rfl rfl rfl) rfl ?_
      refine HL_y (y_move rfl) rfl ?_
      refine HL_y (y_move rfl) rfl ?_
      refine HL_y (y_mul rfl rfl (i64w (by omega))) rfl ?_
      refine HL_y (y_add rfl rfl (i64w (by omega))) rfl ?_
      refine HL_y (y_idx Try.underlying27 sz5 rfl rfl (by first | exact S4.rd hb) inferInstance (by omega)) rfl ?_
      refine HL_yb (y_ldb Try.underlying5 rfl rfl (by first | exact S4.rd hb) (by omega)) rfl fun _ _ => ?_
      refine HL_y (y_conv is5 Try.underlying60 rfl (u32w (by omega))) rfl ?_
      refine HL_y (y_shl rfl rfl (by omega) rfl) rfl ?_
      refine HL_y (y_bits rfl rfl rfl rfl) rfl ?_
      refine HL_y (y_move rfl) rfl ?_
      refine HL_y (y_move rfl) rfl ?_
      refine HL_y (y_mul rfl rfl (i64w (by omega))) rfl ?_
      refine HL_y (y_add rfl rfl (i64w (by omega))) rfl ?_
      refine HL_y (y_idx Try.underlying27 sz5 rfl rfl (by first | exact S4.rd hb) inferInstance (by omega)) rfl ?_
      refine HL_yb (y_ldb Try.underlying5 rfl rfl (by first | exact S4.rd hb) (by omega)) rfl fun _ _ => ?_
      refine HL_y (y_conv is5 Try.underlying60 rfl (u32w (by omega))) rfl ?_
      refine HL_y (y_bits rfl rfl rfl (wordE _ _)) rfl ?_
      refine HL_y (y_idxA0 Try.underlying245 sz60 rfl rfl inferInstance (by omega)) rfl ?_
      refine HL_nil ?_
      refine hK8 _ ?_
      refine L_o (o_st1 S4 1 rfl rfl rfl rfl sz60 (by simp [length_sched, z64]; omega) fun w5 S5 => ?_)
      have S9 := S5.blkc 1 rfl (sched_lay b k (by omega) (word b k) (by simp [sched, hlt]))
      refine L_nil ?_
      refine hK7 _ _ ?_
      refine T_region ?_
      refine L_y (y_move rfl) rfl ?_
      refine L_y (y_add rfl rfl (i64w (by omega))) rfl ?_
      refine L_y (y_assign rfl) rfl ?_
      refine L_nil ?_
      refine ⟨k + 1, by omega, ⟨by omega, S9⟩, ?_⟩
      exact (Sub.cons rfl (by first | rfl | exact congrArg (Value.int _) (by omega)) (Sub.cons rfl rfl (Sub.cons rfl rfl (Sub.cons rfl rfl (Sub.nil _)))))
    ·
      obtain rfl : k = 16 := by omega
      refine T_exit ?_
      refine hK3 _ _ ?_
      refine T_seq fun K9 hK9 => ?_
      refine T_seq fun K10 hK10 => ?_
      refine T_region ?_
      refine L_y (y_assign rfl) rfl ?_
      refine L_nil ?_
      refine hK10 _ _ ?_
      refine T_block ?_
      refine T_loop1 [(2, _), (3, _)] (fun (k : Nat) => [(5, .int .i64 (k : Int))]) (fun (k : Nat) => 64 - k) (fun (k : Nat) (w : World) => 16 ≤ k ∧ k ≤ 64 ∧ Zx.St w0 noM [blk b1 245 (uA z64), blk b2 245 (uA (sched b k ++ z64.drop k))] w) 16 (Sub.cons rfl (by first | rfl | exact congrArg (Value.int _) (by omega)) (Sub.nil _)) (Sub.cons rfl rfl (Sub.cons rfl rfl (Sub.nil _))) ?_ ?_
      ·
        exact ⟨by omega, by omega, S3⟩
      ·
        intro k w6 hrel
        obtain ⟨hk1, hk2, S6⟩ := hrel
        refine T_seq fun K11 hK11 => ?_
        refine T_seq fun K12 hK12 => ?_
        refine T_region ?_
        refine L_y (y_move rfl) rfl ?_
        refine L_y (y_lss rfl rfl) rfl ?_
        refine L_nil ?_
        refine hK12 _ _ ?_
        refine T_cond rfl (fun h50 => ?_) (fun h50 => ?_)
        ·
          have hlt : k < 64 := by omega
          have hge : ¬ k < 16 := by omega
          refine T_skip ?_
          refine hK11 _ _ ?_
          refine T_seq fun K13 hK13 => ?_
          refine T_block ?_
          refine T_seq fun K14 hK14 => ?_
          refine T_drawnL [(0, true), (1, true), (2, true), (3, true), (4, true), (5, true), (6, true), (7, true), (8, true), (9, true)] hmix (by kernel_rfl) fun w7 l7 => ?_
          have S7 := S6.like l7
          refine DL_y rfl (y_move rfl) rfl ?_
          refine DL_y rfl (y_sub rfl rfl (i64w (by omega))) rfl ?_
          refine DL_y rfl (y_idxA0 Try.underlying245 sz60 rfl rfl (Nt.mk (by omega) : Nt _ (k - 15)) (by omega)) rfl ?_
          refine DL_y rfl (y_ldc Try.underlying60 rfl rfl (((S7.blk 1 rfl).cell _).trans (sched_cell b k (k - 15) (by omega)))) rfl ?_
          refine DL_y rfl (y_move rfl) rfl ?_
          refine DL_y rfl (y_sub rfl rfl (i64w (by omega))) rfl ?_
          refine DL_y rfl (y_idxA0 Try.underlying245 sz60 rfl rfl (Nt.mk (by omega) : Nt _ (k - 2)) (by omega)) rfl ?_
          refine DL_y rfl (y_ldc Try.underlying60 rfl rfl (((S7.blk 1 rfl).cell _).trans (sched_cell b k (k - 2) (by omega)))) rfl ?_
          refine DL_y rfl (y_assign rfl) rfl ?_
          refine DL_y rfl (y_assign rfl) rfl ?_
          refine DL_nil ?_
          refine hK14 _ _ ?_
          refine T_seq fun K15 hK15 => ?_
          refine T_region ?_
          refine L_y (y_move rfl) rfl ?_
          refine L_o (o_call Try.func183 rfl rfl (pureC (rotl7 _ _)) rfl rfl ?_)
          rintro e8 w8 ⟨v8, rfl, l8, rfl⟩
          refine ⟨_, rfl, ?_⟩
          have S8 := S7.like l8
          refine L_y (y_move rfl) rfl ?_
          refine L_o (o_call Try.func183 rfl rfl (pureC (rotl18 _ _)) rfl rfl ?_)
          rintro e9 w9 ⟨v9, rfl, l9, rfl⟩
          refine ⟨_, rfl, ?_⟩
          have S9 := S8.like l9
          refine L_y (y_bits rfl rfl rfl (xorN _ _)) rfl ?_
          refine L_y (y_move rfl) rfl ?_
          refine L_y (y_shr rfl rfl (by omega) (shr3F _)) rfl ?_
          refine L_y (y_bits rfl rfl rfl (xorN _ _)) rfl ?_
          refine L_y (y_assign rfl) rfl ?_
          refine L_nil ?_
          refine hK15 _ _ ?_
          refine T_seq fun K16 hK16 => ?_
          refine T_region ?_
          refine L_y (y_move rfl) rfl ?_
          refine L_o (o_call Try.func183 rfl rfl (pureC (rotl17 _ _)) rfl rfl ?_)
          rintro e10 w10 ⟨v10, rfl, l10, rfl⟩
          refine ⟨_, rfl, ?_⟩
          have S10 := S9.like l10
          refine L_y (y_move rfl) rfl ?_
          refine L_o (o_call Try.func183 rfl rfl (pureC (rotl19 _ _)) rfl rfl ?_)
          rintro e11 w11 ⟨v11, rfl, l11, rfl⟩
          refine ⟨_, rfl, ?_⟩
          have S11 := S10.like l11
          refine L_y (y_bits rfl rfl rfl (xorN _ _)) rfl ?_
          refine L_y (y_move rfl) rfl ?_
          refine L_y (y_shr rfl rfl (by omega) (shr10F _)) rfl ?_
          refine L_y (y_bits rfl rfl rfl (xorN _ _)) rfl ?_
          refine L_y (y_assign rfl) rfl ?_
          refine L_nil ?_
          refine hK16 _ _ ?_
          refine T_tail 15 hmix (by kernel_rfl) fun w12 l12 K17 hK17 => ?_
          have S12 := S11.like l12
          refine HL_y (y_move rfl) rfl ?_
          refine HL_y (y_move rfl) rfl ?_
          refine HL_y (y_sub rfl rfl (i64w (by omega))) rfl ?_
          refine HL_y (y_idxA0 Try.underlying245 sz60 rfl rfl (Nt.mk (by omega) : Nt _ (k - 16)) (by omega)) rfl ?_
          refine HL_y (y_ldc Try.underlying60 rfl rfl (((S12.blk 1 rfl).cell _).trans (sched_cell b k (k - 16) (by omega)))) rfl ?_
          refine HL_y (y_move rfl) rfl ?_
          refine HL_y (y_add rfl rfl (addW _ _)) rfl ?_
          refine HL_y (y_move rfl) rfl ?_
          refine HL_y (y_sub rfl rfl (i64w (by omega))) rfl ?_
          refine HL_y (y_idxA0 Try.underlying245 sz60 rfl rfl (Nt.mk (by omega) : Nt _ (k - 7)) (by omega)) rfl ?_
          refine HL_y (y_ldc Try.underlying60 rfl rfl (((S12.blk 1 rfl).cell _).trans (sched_cell b k (k - 7) (by omega)))) rfl ?_
          refine HL_y (y_add rfl rfl (addW _ _)) rfl ?_
          refine HL_y (y_move rfl) rfl ?_
          refine HL_y (y_add rfl rfl (addW _ _)) rfl ?_
          refine HL_y (y_idxA0 Try.underlying245 sz60 rfl rfl inferInstance (by omega)) rfl ?_
          refine HL_nil ?_
          refine hK17 _ ?_
          refine L_o (o_st1 S12 1 rfl rfl rfl rfl sz60 (by simp [length_sched, z64]; omega) fun w13 S13 => ?_)
          have S9 := S13.blkc 1 rfl (sched_lay b k hlt _ (by simp only [sched, if_neg hge]; rfl))
          refine L_nil ?_
          refine hK13 _ _ ?_
          refine T_region ?_
          refine L_y (y_move rfl) rfl ?_
          refine L_y (y_add rfl rfl (i64w (by omega))) rfl ?_
          refine L_y (y_assign rfl) rfl ?_
          refine L_nil ?_
          refine ⟨k + 1, by omega, ⟨by omega, by omega, S9⟩, ?_⟩
          exact (Sub.cons rfl (by first | rfl | exact congrArg (Value.int _) (by omega)) (Sub.cons rfl rfl (Sub.cons rfl rfl (Sub.nil _))))
        ·
          obtain rfl : k = 64 := by omega
          have S8 := S6.blkc (cs' := uA (sched b 64)) 1 rfl (by rw [show z64.drop 64 = [] from rfl, List.append_nil])
          generalize hSS : sched b 64 = SS at S8 ⊢
          have hSl : SS.length = 64 := by rw [← hSS]; exact length_sched b 64
          have S7 := S8
          refine T_exit ?_
          refine hK9 _ _ ?_
          refine T_seq fun K18 hK18 => ?_
          refine T_region ?_
          refine L_y (y_ldW (size := 64) (vs := uL SS) Try.underlying245 rfl sz245 rfl (S8.blk 1 rfl) ⟨by rw [List.drop_zero]; exact List.take_of_length_le (by simp [uA, hSl]), by simp [hSl]⟩) rfl ?_
          refine L_o (o_stW S6 0 rfl rfl rfl (by rw [List.size_toArray, length_uL, hSl]; exact sz245) (by simp [hSl, z64]) (uL_one _) fun w14 S14 => ?_)
          refine L_nil ?_
          refine hK18 _ _ ?_
          refine T_ret ?_
          repeat (first | with_reducible refine up_then ?_ | with_reducible refine up_in ?_)
          refine retc rfl rfl (S14.blk 0 rfl) Try.underlying245 rfl (by rw [List.size_toArray, length_uL, hSl]; exact sz245) ?_
          exact ⟨_, rfl, S14.like0, by rw [hSS]; rfl⟩
end Go.Proofs.Ytgaklngnfecdaaa.Sha


/-
  A state and a block, by the code.
-/
namespace Go.Proofs.Ytgaklngnfecdaaa.Sha
open Go.RowKit Zk Zx
set_option linter.unusedVariables false
set_option linter.unusedSimpArgs false

theorem uA_one (l : List UInt32) : ∀ u ∈ (uA l).toList, u.oneCell' = true := uL_one l
theorem list_8 (u : Go.Proofs.Ytgaklngnfecdaaa.Sha.St) : u.list.length = 8 := by simp [Go.Proofs.Ytgaklngnfecdaaa.Sha.St.list]
theorem list_len (u v : Go.Proofs.Ytgaklngnfecdaaa.Sha.St) : u.list.length = v.list.length := by rw [list_8, list_8]
/-- The first i sums, then the rest as it was. -/
def addU (x y : List UInt32) (i : Nat) : List UInt32 := (List.zipWith (· + ·) x y).take i ++ x.drop i
theorem length_addU (x y : List UInt32) (h : x.length = y.length) (i : Nat) : (addU x y i).length = x.length := by
  simp [addU]; omega
theorem addU_get (x y : List UInt32) (i : Nat) (h : i < x.length) (hxy : x.length = y.length) : (uA (addU x y i))[i]? = some (uV (x.getD i 0)) := by
  rw [uA_get' _ _ (by rw [length_addU _ _ hxy]; exact h)]
  congr 2
  simp only [List.getD_eq_getElem?_getD, addU]
  rw [List.getElem?_append_right (by simp; omega)]
  have e : i - ((List.zipWith (· + ·) x y).take i).length = 0 := by simp; omega
  rw [e, List.getElem?_drop, Nat.add_zero]
theorem addU_set (x y : List UInt32) (i : Nat) (hxy : x.length = y.length) (h : i < x.length) : (uA (addU x y i)).setIfInBounds i (.int .u32 (N (x.getD i 0 + y.getD i 0))) = uA (addU x y (i + 1)) := by
  rw [uA_set]
  congr 1
  unfold addU
  rw [List.set_append_right _ _ (by simp; omega)]
  have e : i - ((List.zipWith (· + ·) x y).take i).length = 0 := by simp; omega
  rw [e, List.drop_eq_getElem_cons h, List.set_cons_zero, List.take_succ_eq_append_getElem (by simp; omega)]
  simp [List.getD_eq_getElem?_getD, List.getElem?_eq_getElem h, List.getElem?_eq_getElem (show i < y.length by omega)]
theorem blockS_list (v : Go.Proofs.Ytgaklngnfecdaaa.Sha.St) (b : List UInt8) : addU (rounds (sched b 64) v 64).list v.list 8 = (blockS v b).list := rfl


set_option maxRecDepth 100000 in
set_option maxHeartbeats 2000000 in
theorem mix (v : Go.Proofs.Ytgaklngnfecdaaa.Sha.St) (b : List UInt8) (B : Option Addr) (n cb : Nat) (hn : n = 64) (w0 : World) (hb : Rs w0 1 B n cb (bL b)) :
    Calls Try.prog 156 #[.agg (uA v.list), .slice B n cb] w0 fun e w' => ∃ u, e = .returned u ∧ Like w0 w' ∧ u = .agg (uA (blockS v b).list) := by
  refine enter1 (env := [(0, .agg (uA v.list)), (1, .slice B n cb)]) [.agg (uA v.list), .slice B n cb] Try.func156 rfl Try.ntmps156 rfl rfl ?_
  have S0 := St.start w0 noM
  refine T_seq fun K1 hK1 => ?_
  refine T_region ?_
  refine L_o (o_box rfl S0 rfl fun b1 w1 hb1 S1 => ?_)
  refine L_o (o_alloc zz185 S1 rfl fun b2 w2 hb2 S2 => ?_)
  refine L_nil ?_
  refine hK1 _ _ ?_
  refine T_seq fun K2 hK2 => ?_
  refine T_region ?_
  refine L_o (o_call Try.func181 rfl rfl (belowC (constants_any _)) rfl rfl ?_)
  rintro e3 w3 ⟨v3, rfl, l3, rfl⟩
  refine ⟨_, rfl, ?_⟩
  have S3 := S2.like l3
  refine L_o (o_alloc zz245 S3 rfl fun b4 w4 hb4 S4 => ?_)
  refine L_o (o_stW S4 2 rfl rfl rfl (by rw [size_uA, show kL.length = 64 from rfl]; exact sz245) (by rw [size_uA, show kL.length = 64 from rfl]; simp [Value.cells]) (by first | exact uA_one _ | exact uL_one _ | exact bL_one _ | exact iL_one _ | (intro u hu; simp at hu; subst hu; rfl) | (simp; done) | (simp [Value.oneCell']; done)) fun w5 S5 => ?_)
  refine L_nil ?_
  refine hK2 _ _ ?_
  refine T_seq fun K3 hK3 => ?_
  refine T_region ?_
  refine L_y (y_move rfl) rfl ?_
  refine L_o (o_call Try.func182 rfl rfl (spread b B n cb hn _ (S5.rd hb)) rfl rfl ?_)
  rintro e6 w6 ⟨v6, rfl, l6, rfl⟩
  refine ⟨_, rfl, ?_⟩
  have S6 := S5.like l6
  have hSl : (sched b 64).length = 64 := length_sched b 64
  have hl0 := blockS_list v b
  generalize hSS : sched b 64 = SS at hSl hl0 ⊢
  refine L_o (o_alloc zz245 S6 rfl fun b7 w7 hb7 S7 => ?_)
  refine L_o (o_stW S7 3 rfl rfl rfl (by rw [size_uA, hSl]; exact sz245) (by rw [size_uA, hSl]; simp [Value.cells]) (by first | exact uA_one _ | exact uL_one _ | exact bL_one _ | exact iL_one _ | (intro u hu; simp at hu; subst hu; rfl) | (simp; done) | (simp [Value.oneCell']; done)) fun w8 S8 => ?_)
  refine L_nil ?_
  refine hK3 _ _ ?_
  refine T_seq fun K4 hK4 => ?_
  refine T_region ?_
  refine L_y (y_ldW Try.underlying185 rfl sz185 rfl (S8.blk 0 rfl) ⟨(rfl : _ = uL v.list), rfl⟩) rfl ?_
  refine L_o (o_alloc zz185 S8 rfl fun b9 w9 hb9 S9 => ?_)
  refine L_o (o_stW S9 4 rfl rfl rfl (by exact sz185) (by simp [Go.Proofs.Ytgaklngnfecdaaa.Sha.St.list, Value.cells]) (uL_one _) fun w10 S10 => ?_)
  refine L_nil ?_
  refine hK4 _ _ ?_
  refine T_seq fun K5 hK5 => ?_
  refine T_seq fun K6 hK6 => ?_
  refine T_region ?_
  refine L_y (y_move rfl) rfl ?_
  refine L_nil ?_
  refine hK6 _ _ ?_
  refine T_block ?_
  refine T_loop1 [(2, _), (4, _), (5, _), (6, _), (7, _)] (fun (t : Nat) => [(18, .int .i64 (t : Int))]) (fun (t : Nat) => 64 - t) (fun (t : Nat) (w : World) => t ≤ 64 ∧ Zx.St w0 noM [blk b1 185 (uA v.list), blk b2 185 (uA z8), blk b4 245 (uA kL), blk b7 245 (uA SS), blk b9 185 (uA (rounds SS v t).list)] w) 0 (Sub.cons rfl (by first | rfl | exact congrArg (Value.int _) (by omega)) (Sub.nil _)) (Sub.cons rfl rfl (Sub.cons rfl rfl (Sub.cons rfl rfl (Sub.cons rfl rfl (Sub.cons rfl rfl (Sub.nil _)))))) ?_ ?_
  ·
    exact ⟨by omega, S10⟩
  ·
    intro t w11 hrel
    obtain ⟨ht, S11⟩ := hrel
    refine T_seq fun K7 hK7 => ?_
    refine T_region ?_
    refine L_y (y_lss rfl rfl) rfl ?_
    refine L_nil ?_
    refine hK7 _ _ ?_
    refine T_seq fun K8 hK8 => ?_
    refine T_cond rfl (fun h19 => ?_) (fun h19 => ?_)
    ·
      refine T_skip ?_
      refine hK8 _ _ ?_
      refine T_seq fun K9 hK9 => ?_
      refine T_block ?_
      refine T_seq fun K10 hK10 => ?_
      refine T_region ?_
      refine L_y (y_move rfl) rfl ?_
      refine L_y (y_assign rfl) rfl ?_
      refine L_nil ?_
      refine hK10 _ _ ?_
      refine T_seq fun K11 hK11 => ?_
      refine T_drawnL [(0, true), (1, true), (2, true), (3, true), (4, true), (5, true)] hmix (by kernel_rfl) fun w12 l12 => ?_
      have S12 := S11.like l12
      refine DL_y rfl (y_idxA0 Try.underlying185 sz60 rfl rfl inferInstance (by omega)) rfl ?_
      refine DL_y rfl (y_ldc Try.underlying60 rfl rfl (((S12.blk 4 rfl).cell _).trans (show _ = some (uV (rounds SS v t).e) from rfl))) rfl ?_
      refine DL_y rfl (y_idxA0 Try.underlying185 sz60 rfl rfl inferInstance (by omega)) rfl ?_
      refine DL_y rfl (y_ldc Try.underlying60 rfl rfl (((S12.blk 4 rfl).cell _).trans (show _ = some (uV (rounds SS v t).a) from rfl))) rfl ?_
      refine DL_y rfl (y_assign rfl) rfl ?_
      refine DL_y rfl (y_assign rfl) rfl ?_
      refine DL_nil ?_
      refine hK11 _ _ ?_
      refine T_seq fun K12 hK12 => ?_
      refine T_drawnL [(0, true), (1, true), (2, true), (4, true), (7, true), (11, true), (12, true), (13, true), (14, true), (15, true), (16, true), (17, true), (18, true), (19, true), (20, true), (22, true), (23, true), (24, true), (26, true), (27, true), (28, true), (3, false), (5, false), (6, true), (8, false), (9, true), (10, true), (21, true), (25, true), (29, true), (30, true)] hmix (by kernel_rfl) fun w13 l13 => ?_
      have S13 := S12.like l13
      refine DL_y rfl (y_idxA0 Try.underlying185 sz60 rfl rfl inferInstance (by omega)) rfl ?_
      refine DL_y rfl (y_ldc Try.underlying60 rfl rfl (((S13.blk 4 rfl).cell _).trans (show _ = some (uV (rounds SS v t).h) from rfl))) rfl ?_
      refine DL_y rfl (y_move rfl) rfl ?_
      refine DL_y rfl (y_move rfl) rfl ?_
      refine DL_y rfl (y_move rfl) rfl ?_
      refine DL_y rfl (y_move rfl) rfl ?_
      refine DL_y rfl (y_idxA0 Try.underlying185 sz60 rfl rfl inferInstance (by omega)) rfl ?_
      refine DL_y rfl (y_ldc Try.underlying60 rfl rfl (((S13.blk 4 rfl).cell _).trans (show _ = some (uV (rounds SS v t).f) from rfl))) rfl ?_
      refine DL_y rfl (y_bits rfl rfl rfl (andN _ _)) rfl ?_
      refine DL_y rfl (y_move rfl) rfl ?_
      refine DL_y rfl (y_inv rfl (notN _)) rfl ?_
      refine DL_y rfl (y_idxA0 Try.underlying185 sz60 rfl rfl inferInstance (by omega)) rfl ?_
      refine DL_y rfl (y_ldc Try.underlying60 rfl rfl (((S13.blk 4 rfl).cell _).trans (show _ = some (uV (rounds SS v t).g) from rfl))) rfl ?_
      refine DL_y rfl (y_bits rfl rfl rfl (andN _ _)) rfl ?_
      refine DL_y rfl (y_bits rfl rfl rfl (xorN _ _)) rfl ?_
      refine DL_y rfl (y_move rfl) rfl ?_
      refine DL_y rfl (y_idxA0 Try.underlying245 sz60 rfl rfl inferInstance (by omega)) rfl ?_
      refine DL_y rfl (y_ldc Try.underlying60 rfl rfl (((S13.blk 2 rfl).cell _).trans (uA_get' _ _ (by show t < 64; omega)))) rfl ?_
      refine DL_y rfl (y_move rfl) rfl ?_
      refine DL_y rfl (y_idxA0 Try.underlying245 sz60 rfl rfl inferInstance (by omega)) rfl ?_
      refine DL_y rfl (y_ldc Try.underlying60 rfl rfl (((S13.blk 3 rfl).cell _).trans (uA_get' _ _ (by rw [hSl]; omega)))) rfl ?_
      refine DL_o rfl (o_call Try.func183 rfl rfl (pureC (rotl6 _ _)) rfl rfl ?_)
      rintro e14 w14 ⟨v14, rfl, l14, rfl⟩
      refine ⟨_, rfl, l14, ?_⟩
      have S14 := S13.like l14
      have q14 := l14
      refine DL_o rfl (o_call Try.func183 rfl rfl (pureC (rotl11 _ _)) rfl rfl ?_)
      rintro e15 w15 ⟨v15, rfl, l15, rfl⟩
      refine ⟨_, rfl, (Like.trans q14 l15), ?_⟩
      have S15 := S14.like l15
      have q15 := (Like.trans q14 l15)
      refine DL_y rfl (y_bits rfl rfl rfl (xorN _ _)) rfl ?_
      refine DL_o rfl (o_call Try.func183 rfl rfl (pureC (rotl25 _ _)) rfl rfl ?_)
      rintro e16 w16 ⟨v16, rfl, l16, rfl⟩
      refine ⟨_, rfl, (Like.trans q15 l16), ?_⟩
      have S16 := S15.like l16
      have q16 := (Like.trans q15 l16)
      refine DL_y rfl (y_bits rfl rfl rfl (xorN _ _)) rfl ?_
      refine DL_y rfl (y_add rfl rfl (addW _ _)) rfl ?_
      refine DL_y rfl (y_add rfl rfl (addW _ _)) rfl ?_
      refine DL_y rfl (y_add rfl rfl (addW _ _)) rfl ?_
      refine DL_y rfl (y_add rfl rfl (addW _ _)) rfl ?_
      refine DL_y rfl (y_assign rfl) rfl ?_
      refine DL_nil ?_
      refine hK12 _ _ ?_
      refine T_seq fun K13 hK13 => ?_
      refine T_drawnL [(0, true), (2, true), (5, true), (8, true), (9, true), (10, true), (11, true), (12, true), (13, true), (14, true), (15, true), (16, true), (17, true), (18, true), (19, true), (20, true), (21, true), (22, true), (1, false), (3, false), (4, true), (6, false), (7, true), (23, true), (24, true)] hmix (by kernel_rfl) fun w17 l17 => ?_
      have S17 := S16.like l17
      refine DL_y rfl (y_move rfl) rfl ?_
      refine DL_y rfl (y_move rfl) rfl ?_
      refine DL_y rfl (y_move rfl) rfl ?_
      refine DL_y rfl (y_move rfl) rfl ?_
      refine DL_y rfl (y_idxA0 Try.underlying185 sz60 rfl rfl inferInstance (by omega)) rfl ?_
      refine DL_y rfl (y_ldc Try.underlying60 rfl rfl (((S17.blk 4 rfl).cell _).trans (show _ = some (uV (rounds SS v t).b) from rfl))) rfl ?_
      refine DL_y rfl (y_bits rfl rfl rfl (andN _ _)) rfl ?_
      refine DL_y rfl (y_move rfl) rfl ?_
      refine DL_y rfl (y_idxA0 Try.underlying185 sz60 rfl rfl inferInstance (by omega)) rfl ?_
      refine DL_y rfl (y_ldc Try.underlying60 rfl rfl (((S17.blk 4 rfl).cell _).trans (show _ = some (uV (rounds SS v t).c) from rfl))) rfl ?_
      refine DL_y rfl (y_bits rfl rfl rfl (andN _ _)) rfl ?_
      refine DL_y rfl (y_bits rfl rfl rfl (xorN _ _)) rfl ?_
      refine DL_y rfl (y_idxA0 Try.underlying185 sz60 rfl rfl inferInstance (by omega)) rfl ?_
      refine DL_y rfl (y_ldc Try.underlying60 rfl rfl (((S17.blk 4 rfl).cell _).trans (show _ = some (uV (rounds SS v t).b) from rfl))) rfl ?_
      refine DL_y rfl (y_idxA0 Try.underlying185 sz60 rfl rfl inferInstance (by omega)) rfl ?_
      refine DL_y rfl (y_ldc Try.underlying60 rfl rfl (((S17.blk 4 rfl).cell _).trans (show _ = some (uV (rounds SS v t).c) from rfl))) rfl ?_
      refine DL_y rfl (y_bits rfl rfl rfl (andN _ _)) rfl ?_
      refine DL_y rfl (y_bits rfl rfl rfl (xorN _ _)) rfl ?_
      refine DL_o rfl (o_call Try.func183 rfl rfl (pureC (rotl2 _ _)) rfl rfl ?_)
      rintro e18 w18 ⟨v18, rfl, l18, rfl⟩
      refine ⟨_, rfl, l18, ?_⟩
      have S18 := S17.like l18
      have q18 := l18
      refine DL_o rfl (o_call Try.func183 rfl rfl (pureC (rotl13 _ _)) rfl rfl ?_)
      rintro e19 w19 ⟨v19, rfl, l19, rfl⟩
      refine ⟨_, rfl, (Like.trans q18 l19), ?_⟩
      have S19 := S18.like l19
      have q19 := (Like.trans q18 l19)
      refine DL_y rfl (y_bits rfl rfl rfl (xorN _ _)) rfl ?_
      refine DL_o rfl (o_call Try.func183 rfl rfl (pureC (rotl22 _ _)) rfl rfl ?_)
      rintro e20 w20 ⟨v20, rfl, l20, rfl⟩
      refine ⟨_, rfl, (Like.trans q19 l20), ?_⟩
      have S20 := S19.like l20
      have q20 := (Like.trans q19 l20)
      refine DL_y rfl (y_bits rfl rfl rfl (xorN _ _)) rfl ?_
      refine DL_y rfl (y_add rfl rfl (addW _ _)) rfl ?_
      refine DL_y rfl (y_assign rfl) rfl ?_
      refine DL_nil ?_
      refine hK13 _ _ ?_
      refine T_region ?_
      refine L_y (y_move rfl) rfl ?_
      refine L_y (y_move rfl) rfl ?_
      refine L_y (y_add rfl rfl (addW _ _)) rfl ?_
      refine L_y (y_move rfl) rfl ?_
      refine L_y (y_idxA0 Try.underlying185 sz60 rfl rfl inferInstance (by omega)) rfl ?_
      refine L_y (y_ldc Try.underlying60 rfl rfl (((S20.blk 4 rfl).cell _).trans (show _ = some (uV (rounds SS v t).b) from rfl))) rfl ?_
      refine L_y (y_idxA0 Try.underlying185 sz60 rfl rfl inferInstance (by omega)) rfl ?_
      refine L_y (y_ldc Try.underlying60 rfl rfl (((S20.blk 4 rfl).cell _).trans (show _ = some (uV (rounds SS v t).c) from rfl))) rfl ?_
      refine L_y (y_idxA0 Try.underlying185 sz60 rfl rfl inferInstance (by omega)) rfl ?_
      refine L_y (y_ldc Try.underlying60 rfl rfl (((S20.blk 4 rfl).cell _).trans (show _ = some (uV (rounds SS v t).d) from rfl))) rfl ?_
      refine L_y (y_move rfl) rfl ?_
      refine L_y (y_add rfl rfl (addW _ _)) rfl ?_
      refine L_y (y_move rfl) rfl ?_
      refine L_y (y_idxA0 Try.underlying185 sz60 rfl rfl inferInstance (by omega)) rfl ?_
      refine L_y (y_ldc Try.underlying60 rfl rfl (((S20.blk 4 rfl).cell _).trans (show _ = some (uV (rounds SS v t).f) from rfl))) rfl ?_
      refine L_y (y_idxA0 Try.underlying185 sz60 rfl rfl inferInstance (by omega)) rfl ?_
      refine L_y (y_ldc Try.underlying60 rfl rfl (((S20.blk 4 rfl).cell _).trans (show _ = some (uV (rounds SS v t).g) from rfl))) rfl ?_
      refine L_y (y_build (cs := uA (rounds SS v (t + 1)).list) rfl (by kernel_rfl)) rfl ?_
      refine L_o (o_stW S20 4 rfl rfl rfl (by exact sz185) (by simp [Go.Proofs.Ytgaklngnfecdaaa.Sha.St.list, Value.cells]) (uL_one _) fun w21 S21 => ?_)
      refine L_nil ?_
      refine hK9 _ _ ?_
      refine T_region ?_
      refine L_y (y_add rfl rfl (i64w (by omega))) rfl ?_
      refine L_y (y_move rfl) rfl ?_
      refine L_nil ?_
      refine ⟨t + 1, by omega, ⟨by omega, S21⟩, ?_⟩
      exact (Sub.cons rfl (by first | rfl | exact congrArg (Value.int _) (by omega)) (Sub.cons rfl rfl (Sub.cons rfl rfl (Sub.cons rfl rfl (Sub.cons rfl rfl (Sub.cons rfl rfl (Sub.nil _)))))))
    ·
      obtain rfl : t = 64 := by omega
      generalize hR : rounds SS v 64 = R at hl0 S11 ⊢
      refine T_exit ?_
      refine hK5 _ _ ?_
      refine T_seq fun K14 hK14 => ?_
      refine T_seq fun K15 hK15 => ?_
      refine T_region ?_
      refine L_y (y_move rfl) rfl ?_
      refine L_nil ?_
      refine hK15 _ _ ?_
      refine T_block ?_
      refine T_loop1 [(2, _), (4, _), (7, _)] (fun (i : Nat) => [(98, .int .i64 (i : Int))]) (fun (i : Nat) => 8 - i) (fun (i : Nat) (w : World) => i ≤ 8 ∧ Zx.St w0 noM [blk b1 185 (uA v.list), blk b2 185 (uA z8), blk b4 245 (uA kL), blk b7 245 (uA SS), blk b9 185 (uA (addU R.list v.list i))] w) 0 (Sub.cons rfl (by first | rfl | exact congrArg (Value.int _) (by omega)) (Sub.nil _)) (Sub.cons rfl rfl (Sub.cons rfl rfl (Sub.cons rfl rfl (Sub.nil _)))) ?_ ?_
      ·
        exact ⟨by omega, S11⟩
      ·
        intro i w22 hrel
        obtain ⟨hi, S22⟩ := hrel
        refine T_seq fun K16 hK16 => ?_
        refine T_region ?_
        refine L_y (y_lss rfl rfl) rfl ?_
        refine L_nil ?_
        refine hK16 _ _ ?_
        refine T_seq fun K17 hK17 => ?_
        refine T_cond rfl (fun h99 => ?_) (fun h99 => ?_)
        ·
          refine T_skip ?_
          refine hK17 _ _ ?_
          refine T_seq fun K18 hK18 => ?_
          refine T_block ?_
          refine T_seq fun K19 hK19 => ?_
          refine T_region ?_
          refine L_y (y_move rfl) rfl ?_
          refine L_y (y_assign rfl) rfl ?_
          refine L_nil ?_
          refine hK19 _ _ ?_
          refine T_tail 8 hmix (by kernel_rfl) fun w23 l23 K20 hK20 => ?_
          have S23 := S22.like l23
          refine HL_y (y_move rfl) rfl ?_
          refine HL_y (y_idxA0 Try.underlying185 sz60 rfl rfl inferInstance (by omega)) rfl ?_
          refine HL_y (y_ldc Try.underlying60 rfl rfl (((S23.blk 4 rfl).cell _).trans (addU_get _ _ i (by rw [list_8]; omega) (list_len _ _)))) rfl ?_
          refine HL_y (y_move rfl) rfl ?_
          refine HL_y (y_idxA0 Try.underlying185 sz60 rfl rfl inferInstance (by omega)) rfl ?_
          refine HL_y (y_ldc Try.underlying60 rfl rfl (((S23.blk 0 rfl).cell _).trans (uA_get' _ _ (by rw [list_8]; omega)))) rfl ?_
          refine HL_y (y_add rfl rfl (addW _ _)) rfl ?_
          refine HL_y (y_idxA0 Try.underlying185 sz60 rfl rfl inferInstance (by omega)) rfl ?_
          refine HL_nil ?_
          refine hK20 _ ?_
          refine L_o (o_st1 S23 4 rfl rfl rfl rfl sz60 (by rw [size_uA, length_addU R.list v.list (list_len _ _), list_8]; omega) fun w24 S24 => ?_)
          have S9 := S24.blkc 4 rfl (addU_set _ _ i (list_len _ _) (by rw [list_8]; omega))
          refine L_nil ?_
          refine hK18 _ _ ?_
          refine T_region ?_
          refine L_y (y_add rfl rfl (i64w (by omega))) rfl ?_
          refine L_y (y_move rfl) rfl ?_
          refine L_nil ?_
          refine ⟨i + 1, by omega, ⟨by omega, S9⟩, ?_⟩
          exact (Sub.cons rfl (by first | rfl | exact congrArg (Value.int _) (by omega)) (Sub.cons rfl rfl (Sub.cons rfl rfl (Sub.cons rfl rfl (Sub.nil _)))))
        ·
          obtain rfl : i = 8 := by omega
          refine T_exit ?_
          refine hK14 _ _ ?_
          refine T_seq fun K21 hK21 => ?_
          refine T_region ?_
          refine L_y (y_ldW (size := 8) (vs := uL (blockS v b).list) Try.underlying185 rfl sz185 rfl (S22.blk 4 rfl) ⟨by rw [← hl0]; rfl, rfl⟩) rfl ?_
          refine L_o (o_stW S22 1 rfl rfl rfl (by exact sz185) (by simp [Go.Proofs.Ytgaklngnfecdaaa.Sha.St.list, z8, Value.cells]) (by first | exact uA_one _ | exact uL_one _ | exact bL_one _ | exact iL_one _ | (intro u hu; simp at hu; subst hu; rfl) | (simp; done) | (simp [Value.oneCell']; done)) fun w25 S25 => ?_)
          refine L_nil ?_
          refine hK21 _ _ ?_
          refine T_ret ?_
          repeat (first | with_reducible refine up_then ?_ | with_reducible refine up_in ?_)
          refine retc rfl rfl (S25.blk 1 rfl) Try.underlying185 rfl (by exact sz185) ?_
          exact ⟨_, rfl, S25.like0, rfl⟩
end Go.Proofs.Ytgaklngnfecdaaa.Sha


/-
  Small functions of package sha.
-/
namespace Go.Proofs.Ytgaklngnfecdaaa.Sha
open Go.RowKit Zk Zx
set_option linter.unusedVariables false
set_option linter.unusedSimpArgs false

theorem byt_inj (l k : List UInt8) : decide ((⟨l.toArray⟩ : ByteArray) = ⟨k.toArray⟩) = decide (l = k) := by
  by_cases h : l = k
  · subst h; simp
  · have : (⟨l.toArray⟩ : ByteArray) ≠ ⟨k.toArray⟩ := fun e => h (by simpa using e)
    simp [h]
def start0 : Go.Proofs.Ytgaklngnfecdaaa.Sha.St := ⟨0x6a09e667, 0xbb67ae85, 0x3c6ef372, 0xa54ff53a, 0x510e527f, 0x9b05688c, 0x1f83d9ab, 0x5be0cd19⟩
/-- A Hash's cells. -/
def hashA (n : Nat) (v : Go.Proofs.Ytgaklngnfecdaaa.Sha.St) (rest : List UInt8) : Array Value := (.bool true :: .int .u64 (n : Int) :: (uL v.list ++ bL rest)).toArray

set_option maxRecDepth 100000 in
theorem same (A B : Option Addr) (n c m d : Nat) (l k : List UInt8) (w0 : World) (ha : Rs w0 1 A n c (bL l)) (hb : Rs w0 1 B m d (bL k)) :
    Calls Try.prog 18 #[.slice A n c, .slice B m d] w0 fun e w' => ∃ u, e = .returned u ∧ Like w0 w' ∧ u = .bool (decide (l = k)) := by
  refine enter1 (env := [(0, .slice A n c), (1, .slice B m d)]) [.slice A n c, .slice B m d] Try.func18 rfl Try.ntmps18 rfl rfl ?_
  have S0 := St.start w0 noM
  refine T_seq fun K1 hK1 => ?_
  refine T_region ?_
  refine L_y (y_assign rfl) rfl ?_
  refine L_nil ?_
  refine hK1 _ _ ?_
  refine T_seq fun K2 hK2 => ?_
  refine T_region ?_
  refine L_y (y_move rfl) rfl ?_
  refine L_y (y_bstr Try.underlying27 Try.underlying5 Try.underlying9 rfl (S0.rd ha)) rfl ?_
  refine L_y (y_move rfl) rfl ?_
  refine L_y (y_bstr Try.underlying27 Try.underlying5 Try.underlying9 rfl (S0.rd hb)) rfl ?_
  refine L_y (y_seql rfl rfl) rfl ?_
  refine L_y (y_assign rfl) rfl ?_
  refine L_nil ?_
  refine hK2 _ _ ?_
  refine T_ret ?_
  repeat (first | with_reducible refine up_then ?_ | with_reducible refine up_in ?_)
  refine ret1 rfl rfl ?_
  exact ⟨_, rfl, S0.like0, by rw [byt_inj]⟩


set_option maxRecDepth 100000 in
theorem start  (w0 : World)  :
    Calls Try.prog 155 #[] w0 fun e w' => ∃ u, e = .returned u ∧ Like w0 w' ∧ u = .agg (uA start0.list) := by
  refine enter1 (env := []) [] Try.func155 rfl Try.ntmps155 rfl rfl ?_
  have S0 := St.start w0 noM
  refine T_seq fun K1 hK1 => ?_
  refine T_region ?_
  refine L_o (o_alloc zz185 S0 rfl fun b1 w1 hb1 S1 => ?_)
  refine L_nil ?_
  refine hK1 _ _ ?_
  refine T_seq fun K2 hK2 => ?_
  refine T_region ?_
  refine L_y (y_build (cs := uA start0.list) rfl (by kernel_rfl)) rfl ?_
  refine L_o (o_stW S1 0 rfl rfl rfl (by exact sz185) (by simp [Go.Proofs.Ytgaklngnfecdaaa.Sha.St.list, start0, Value.cells]) (uA_one _) fun w2 S2 => ?_)
  refine L_nil ?_
  refine hK2 _ _ ?_
  refine T_ret ?_
  repeat (first | with_reducible refine up_then ?_ | with_reducible refine up_in ?_)
  refine retc rfl rfl (S2.blk 0 rfl) Try.underlying185 rfl (by exact sz185) ?_
  exact ⟨_, rfl, S2.like0, rfl⟩


set_option maxRecDepth 100000 in
theorem refstart  (w0 : World)  :
    Calls Try.prog 122 #[] w0 fun e w' => ∃ u, e = .returned u ∧ Like w0 w' ∧ u = .agg (uA start0.list) := by
  refine enter1 (env := []) [] Try.func122 rfl Try.ntmps122 rfl rfl ?_
  have S0 := St.start w0 noM
  refine T_seq fun K1 hK1 => ?_
  refine T_region ?_
  refine L_o (o_alloc zz185 S0 rfl fun b1 w1 hb1 S1 => ?_)
  refine L_nil ?_
  refine hK1 _ _ ?_
  refine T_seq fun K2 hK2 => ?_
  refine T_region ?_
  refine L_y (y_build (cs := uA start0.list) rfl (by kernel_rfl)) rfl ?_
  refine L_o (o_stW S1 0 rfl rfl rfl (by exact sz185) (by simp [Go.Proofs.Ytgaklngnfecdaaa.Sha.St.list, start0, Value.cells]) (uA_one _) fun w2 S2 => ?_)
  refine L_nil ?_
  refine hK2 _ _ ?_
  refine T_ret ?_
  repeat (first | with_reducible refine up_then ?_ | with_reducible refine up_in ?_)
  refine retc rfl rfl (S2.blk 0 rfl) Try.underlying185 rfl (by exact sz185) ?_
  exact ⟨_, rfl, S2.like0, rfl⟩


set_option maxRecDepth 100000 in
theorem new  (w0 : World)  :
    Calls Try.prog 116 #[] w0 fun e w' => ∃ u, e = .returned u ∧ Like w0 w' ∧ ∃ b, u = .pointer (some ⟨b, 0, none⟩) ∧ w0.heap.size ≤ b ∧ Blk w' b 220 (hashA 0 start0 (List.replicate 64 0)) := by
  refine enter1 (env := []) [] Try.func116 rfl Try.ntmps116 rfl rfl ?_
  have S0 := St.start w0 noM
  refine T_seq fun K1 hK1 => ?_
  refine T_region ?_
  refine L_y (y_assign rfl) rfl ?_
  refine L_nil ?_
  refine hK1 _ _ ?_
  refine T_seq fun K2 hK2 => ?_
  refine T_region ?_
  refine L_o (o_call Try.func155 rfl rfl (start _) rfl rfl ?_)
  rintro e1 w1 ⟨v1, rfl, l1, rfl⟩
  refine ⟨_, rfl, ?_⟩
  have S1 := S0.like l1
  refine L_y (y_build (cs := hashA 0 start0 (List.replicate 64 0)) rfl (by kernel_rfl)) rfl ?_
  refine L_o (o_box rfl S1 rfl fun b2 w2 hb2 S2 => ?_)
  refine L_y (y_assign rfl) rfl ?_
  refine L_nil ?_
  refine hK2 _ _ ?_
  refine T_ret ?_
  repeat (first | with_reducible refine up_then ?_ | with_reducible refine up_in ?_)
  refine ret1 rfl rfl ?_
  exact ⟨_, rfl, S2.like0, _, rfl, hb2, S2.blk 0 rfl⟩


end Go.Proofs.Ytgaklngnfecdaaa.Sha


/-
  Write, by package sha.
-/
namespace Go.Proofs.Ytgaklngnfecdaaa.Sha
open Go.RowKit Zk Zx
set_option linter.unusedVariables false
set_option linter.unusedSimpArgs false

/-- The state behind the first k blocks of l. -/
def stv (l : List UInt8) : Nat → Go.Proofs.Ytgaklngnfecdaaa.Sha.St
  | 0 => start0
  | k + 1 => blockS (stv l k) ((l.drop (64 * k)).take 64)
theorem stv_app (l m : List UInt8) : ∀ k, 64 * k ≤ l.length → stv (l ++ m) k = stv l k
  | 0, _ => rfl
  | k + 1, h => by
    simp only [stv]
    rw [stv_app l m k (by omega), List.drop_append_of_le_length (by omega), List.take_append_of_le_length (by simp; omega)]
/-- cs are the cells of a Hash that has taken l. -/
def HS (l : List UInt8) (cs : Array Value) : Prop := ∃ rest : List UInt8, rest.length = 64 ∧ rest.take (l.length % 64) = l.drop (64 * (l.length / 64)) ∧ cs = hashA l.length (stv l (l.length / 64)) rest
theorem HS_nil : HS [] (hashA 0 start0 (List.replicate 64 0)) := ⟨_, by simp, by simp, rfl⟩
theorem hashA_n (n n' : Nat) (v : Go.Proofs.Ytgaklngnfecdaaa.Sha.St) (rest : List UInt8) (x : Int) (hx : x = (n' : Int)) : (hashA n v rest).setIfInBounds 1 (.int .u64 x) = hashA n' v rest := by
  subst hx
  simp [hashA]
theorem hashA_rest (n : Nat) (v : Go.Proofs.Ytgaklngnfecdaaa.Sha.St) (rest : List UInt8) : (hashA n v rest).toList.drop 10 = bL rest := by
  simp [hashA, Go.Proofs.Ytgaklngnfecdaaa.Sha.St.list, uL]
theorem hashA_state (n : Nat) (v : Go.Proofs.Ytgaklngnfecdaaa.Sha.St) (rest : List UInt8) : ((hashA n v rest).toList.drop 2).take 8 = uL v.list := by
  simp [hashA, Go.Proofs.Ytgaklngnfecdaaa.Sha.St.list, uL]
theorem hashA_size (n : Nat) (v : Go.Proofs.Ytgaklngnfecdaaa.Sha.St) (rest : List UInt8) : (hashA n v rest).size = 10 + rest.length := by
  simp [hashA, Go.Proofs.Ytgaklngnfecdaaa.Sha.St.list]; omega
theorem hashA_split (n : Nat) (v : Go.Proofs.Ytgaklngnfecdaaa.Sha.St) (rest : List UInt8) : (hashA n v rest).toList = (.bool true :: .int .u64 (n : Int) :: uL v.list) ++ bL rest := by simp [hashA]
theorem hashA_copy (n : Nat) (v : Go.Proofs.Ytgaklngnfecdaaa.Sha.St) (rest q : List UInt8) (h o : Nat) (ho : o = 10 + h) (hh : h ≤ rest.length) :
    ((hashA n v rest).toList.take o ++ bL q ++ (hashA n v rest).toList.drop (o + (bL q).length)).toArray = hashA n v (rest.take h ++ q ++ rest.drop (h + q.length)) := by
  subst ho
  have hl : (Value.bool true :: Value.int .u64 (n : Int) :: uL v.list).length = 10 := by simp [Go.Proofs.Ytgaklngnfecdaaa.Sha.St.list]
  rw [hashA_split, List.take_append, List.drop_append, hl]
  rw [List.take_of_length_le (by omega), List.drop_of_length_le (by omega)]
  simp only [length_bL, Nat.add_sub_cancel_left, show 10 + h + q.length - 10 = h + q.length by omega, hashA, bL_app, bL_take, bL_drop]
  simp
theorem hashA_put (n : Nat) (v v' : Go.Proofs.Ytgaklngnfecdaaa.Sha.St) (rest : List UInt8) :
    ((hashA n v rest).toList.take 2 ++ (uA v'.list).toList ++ (hashA n v rest).toList.drop (2 + (uA v'.list).size)).toArray = hashA n v' rest := by
  simp [hashA, Go.Proofs.Ytgaklngnfecdaaa.Sha.St.list, uL, uA]
theorem HS_short (l p rest : List UInt8) (h64 : rest.length = 64) (hr : rest.take (l.length % 64) = l.drop (64 * (l.length / 64))) (h : l.length % 64 + p.length < 64) :
    HS (l ++ p) (hashA (l ++ p).length (stv l (l.length / 64)) (rest.take (l.length % 64) ++ p ++ rest.drop (l.length % 64 + p.length))) := by
  have e1 : (l ++ p).length / 64 = l.length / 64 := by rw [List.length_append]; omega
  have e2 : (l ++ p).length % 64 = l.length % 64 + p.length := by rw [List.length_append]; omega
  refine ⟨_, ?_, ?_, by rw [e1, stv_app l p _ (by omega)]⟩
  · simp [h64]; omega
  · rw [e1, e2, List.take_append_of_le_length (by simp [h64]; omega), List.take_of_length_le (by simp [h64]; omega), hr, List.drop_append_of_le_length (by omega)]
theorem HS_end (t rest : List UInt8) (j : Nat) (h64 : rest.length = 64) (hj : j % 64 = 0) (hle : j ≤ t.length) (h : t.length - j < 64) :
    HS t (hashA t.length (stv t (j / 64)) (rest.take 0 ++ t.drop j ++ rest.drop (0 + (t.drop j).length))) := by
  have e1 : t.length / 64 = j / 64 := by omega
  refine ⟨_, ?_, ?_, by rw [e1]⟩
  · simp [h64]; omega
  · rw [e1, show 64 * (j / 64) = j by omega, List.take_zero, List.nil_append, List.take_append_of_le_length (by simp; omega), List.take_of_length_le (by simp; omega)]
/-- A block more. -/
theorem stv_next (t : List UInt8) (j : Nat) (hj : j % 64 = 0) : stv t ((j + 64) / 64) = blockS (stv t (j / 64)) ((t.drop j).take 64) := by
  rw [show (j + 64) / 64 = j / 64 + 1 by omega]
  simp only [stv]
  rw [show 64 * (j / 64) = j by omega]
theorem stv_fill (l p rest : List UInt8) (h64 : rest.length = 64) (hr : rest.take (l.length % 64) = l.drop (64 * (l.length / 64))) (h0 : 0 < l.length % 64) (h : 64 - l.length % 64 ≤ p.length) :
    stv (l ++ p) ((l.length + (64 - l.length % 64)) / 64) = blockS (stv l (l.length / 64)) (rest.take (l.length % 64) ++ p.take (64 - l.length % 64) ++ rest.drop (l.length % 64 + (p.take (64 - l.length % 64)).length)) := by
  rw [show (l.length + (64 - l.length % 64)) / 64 = l.length / 64 + 1 by omega]
  simp only [stv]
  have hd : rest.drop (l.length % 64 + (p.take (64 - l.length % 64)).length) = [] := List.drop_of_length_le (by simp [h64]; omega)
  rw [stv_app l p _ (by omega), hd, List.append_nil, hr, List.drop_append_of_le_length (by omega), List.take_append]
  congr 2
  · rw [List.take_of_length_le (by simp; omega)]
  · congr 1
    simp
    omega
theorem cut_at (g o h : Nat) (hh : h < 64) : cutA (some ⟨g, o, none⟩) 64 h 1 = some ⟨g, o + h, none⟩ := by
  unfold cutA
  rw [if_neg (by omega)]
  simp [Addr.add_mid]
theorem cut_block {A : Option Addr} {c l size g n : Nat} (h : ∀ ad, 0 < n → A = some ad → ad.block ≠ g) (hn : 0 < n) : ∀ ad, cutA A c l size = some ad → ad.block ≠ g := fun ad had => by
  unfold cutA at had
  split at had
  · exact h ad hn had
  · cases A with
    | none => cases had
    | some a0 =>
      simp only [Option.map_some, Option.some.injEq] at had
      subst had
      rw [block_of_add]
      exact h a0 hn rfl
theorem rest_reads {w : World} {g n : Nat} {v : Go.Proofs.Ytgaklngnfecdaaa.Sha.St} {rest : List UInt8} (h : Blk w g 220 (hashA n v rest)) (h64 : rest.length = 64) : Rs w 1 (some ⟨g, 10, none⟩) 64 64 (bL rest) := by
  have := Rs.of_blk (o := 10) (n := 64) h (by rw [hashA_size, h64]; omega) (by omega)
  rwa [hashA_rest, List.take_of_length_le (by simp [h64])] at this


set_option maxRecDepth 100000 in
set_option maxHeartbeats 1000000 in
theorem write (g : Nat) (l p : List UInt8) (A : Option Addr) (m c : Nat) (cs : Array Value) (w0 : World) (hg : Blk w0 g 220 cs) (hs : HS l cs) (hp : Rs w0 1 A m c (bL p)) (hne : ∀ ad, 0 < m → A = some ad → ad.block ≠ g) (hlen : l.length + m ≤ 1000000) :
    Calls Try.prog 117 #[.pointer (some ⟨g, 0, none⟩), .slice A m c] w0 fun e w' => ∃ u, e = .returned u ∧ w0.grownBy w' (some g) ∧ ∃ cs', Blk w' g 220 cs' ∧ HS (l ++ p) cs' := by
  obtain ⟨rest, h64, hr, rfl⟩ := hs
  have hpl := hp.lenb
  refine enter1 (env := [(0, .pointer (some ⟨g, 0, none⟩)), (1, .slice A m c)]) [.pointer (some ⟨g, 0, none⟩), .slice A m c] Try.func117 rfl Try.ntmps117 rfl rfl ?_
  have S0 : Zx.St w0 (· = g) [blk g 220 (hashA l.length (stv l (l.length / 64)) rest)] w0 := St.borrow _ hg (fun i h => h) hg.lt
  refine T_seq fun K1 hK1 => ?_
  refine T_seq fun K2 hK2 => ?_
  refine T_region ?_
  refine L_y (y_move rfl) rfl ?_
  refine L_y (y_peqn Try.underlying181 rfl) rfl ?_
  refine L_y (y_move rfl) rfl ?_
  refine L_gyes rfl rfl ?_
  refine L_y (y_move rfl) rfl ?_
  refine L_gyes rfl rfl ?_
  refine L_y (y_nilp rfl) rfl ?_
  refine L_gyes rfl rfl ?_
  refine L_y (y_fieldA 0 Try.underlying220 rfl sz4 rfl rfl rfl) rfl ?_
  refine L_gyes rfl rfl ?_
  refine L_y (y_ldc Try.underlying4 rfl rfl (((S0.blk 0 rfl).cell _).trans (by rfl))) rfl ?_
  refine L_gyes rfl rfl ?_
  refine L_y ((by first | exact y_notD rfl | exact y_not rfl)) rfl ?_
  refine L_y ((by first | exact y_pickT rfl rfl | exact y_pickF rfl rfl)) rfl ?_
  refine L_nil ?_
  refine hK2 _ _ ?_
  refine T_false rfl ?_
  refine T_skip ?_
  refine hK1 _ _ ?_
  refine T_seq fun K3 hK3 => ?_
  refine T_region ?_
  refine L_y (y_move rfl) rfl ?_
  refine L_y (y_nilp rfl) rfl ?_
  refine L_y (y_fieldA 1 Try.underlying220 rfl sz127 rfl rfl rfl) rfl ?_
  refine L_y (y_ldc Try.underlying127 rfl rfl (((S0.blk 0 rfl).cell _).trans (by rfl))) rfl ?_
  refine L_y (y_rem rfl rfl (by omega) (remI (by omega))) rfl ?_
  refine L_y (y_conv is127 Try.underlying3 rfl (i64w (by omega))) rfl ?_
  refine L_y (y_assign rfl) rfl ?_
  refine L_nil ?_
  refine hK3 _ _ ?_
  refine T_seq fun K4 hK4 => ?_
  refine T_region ?_
  refine L_y (y_move rfl) rfl ?_
  refine L_y (y_nilp rfl) rfl ?_
  refine L_y (y_fieldA 1 Try.underlying220 rfl sz127 rfl rfl rfl) rfl ?_
  refine L_y (y_ldc Try.underlying127 rfl rfl (((S0.blk 0 rfl).cell _).trans (by rfl))) rfl ?_
  refine L_y (y_move rfl) rfl ?_
  refine L_y (y_len Try.underlying27 rfl) rfl ?_
  refine L_y (y_conv is3 Try.underlying127 rfl (u64w (by omega))) rfl ?_
  refine L_y (y_add rfl rfl (u64w (by omega))) rfl ?_
  refine L_y (y_nilp rfl) rfl ?_
  refine L_y (y_fieldA 1 Try.underlying220 rfl sz127 rfl rfl rfl) rfl ?_
  refine L_o (o_st1 S0 0 rfl rfl rfl rfl sz127 (by rw [hashA_size]; omega) fun w1 S1 => ?_)
  have S5 := S1.blkc 0 rfl (hashA_n l.length (l.length + m) _ rest _ (by omega))
  refine L_nil ?_
  refine hK4 _ _ ?_
  refine T_seqR (fun (e : Env) (w : World) => ∃ (j : Nat) (A1 : Option Addr) (m1 : Nat) (c1 : Nat) (rest1 : List UInt8), Sub [(0, .pointer (some ⟨g, 0, none⟩)), (1, .slice A1 m1 c1)] e ∧ j ≤ m ∧ (l.length + j) % 64 = 0 ∧ m1 = m - j ∧ Rs w0 1 A1 m1 c1 (bL (p.drop j)) ∧ (∀ ad, 0 < m1 → A1 = some ad → ad.block ≠ g) ∧ rest1.length = 64 ∧ Zx.St w0 (· = g) [blk g 220 (hashA (l.length + m) (stv (l ++ p) ((l.length + j) / 64)) rest1)] w) ?_ ?_
  ·
    refine T_seq fun K6 hK6 => ?_
    refine T_region ?_
    refine L_y (y_move rfl) rfl ?_
    refine L_y (y_gtr rfl rfl) rfl ?_
    refine L_nil ?_
    refine hK6 _ _ ?_
    refine T_cond rfl (fun h32 => ?_) (fun h32 => ?_)
    ·
      refine T_seq fun K7 hK7 => ?_
      refine T_region ?_
      refine L_y (y_move rfl) rfl ?_
      refine L_y (y_nilp rfl) rfl ?_
      refine L_y (y_fieldA 10 Try.underlying220 rfl sz218 rfl rfl rfl) rfl ?_
      refine L_y (y_move rfl) rfl ?_
      refine L_y (y_asliceL Try.underlying218 sz5 rfl rfl inferInstance (by omega)) rfl ?_
      refine L_y (y_move rfl) rfl ?_
      refine L_o (o_copyB (news := bL (p.take (64 - l.length % 64))) S5 0 rfl Try.underlying27 sz5 rfl (cut_at g 10 _ (by omega)) rfl (S5.rdM hp hne) (bL_take _ _).symm (by rw [hashA_size, length_bL, List.length_take, h64]; omega) (bL_one _) rfl fun w2 S2 => ?_)
      have S6 := S2.blkc 0 rfl (hashA_copy _ _ _ _ (l.length % 64) _ rfl (by omega))
      have hq : (bL (p.take (64 - l.length % 64))).length = min (64 - l.length % 64) m := by rw [length_bL, List.length_take, hpl]
      refine L_y (y_assign rfl) rfl ?_
      refine L_nil ?_
      refine hK7 _ _ ?_
      refine T_seq fun K8 hK8 => ?_
      refine T_region ?_
      refine L_y (y_move rfl) rfl ?_
      refine L_y (y_move rfl) rfl ?_
      refine L_y (y_sliceL Try.underlying27 sz5 rfl rfl inferInstance (by omega)) rfl ?_
      refine L_y (y_assign rfl) rfl ?_
      refine L_nil ?_
      refine hK8 _ _ ?_
      refine T_seq fun K9 hK9 => ?_
      refine T_seq fun K10 hK10 => ?_
      refine T_region ?_
      refine L_y (y_move rfl) rfl ?_
      refine L_y (y_move rfl) rfl ?_
      refine L_y (y_add rfl rfl (i64w (by omega))) rfl ?_
      refine L_y (y_lss rfl rfl) rfl ?_
      refine L_nil ?_
      refine hK10 _ _ ?_
      refine T_cond rfl (fun h46 => ?_) (fun h46 => ?_)
      ·
        have hq2 : m < 64 - l.length % 64 := by omega
        have eq : p.take (64 - l.length % 64) = p := List.take_of_length_le (by omega)
        refine T_ret ?_
        repeat (first | with_reducible refine up_then ?_ | with_reducible refine up_in ?_)
        refine ret0 rfl ?_
        have hB := S6.blk 0 rfl
        have hh := HS_short l p rest h64 hr (by omega)
        rw [eq] at hB
        rw [List.length_append, hpl] at hh
        exact ⟨_, rfl, S6.only, _, hB, by rw [hpl]; exact hh⟩
      ·
        refine T_skip ?_
        refine hK9 _ _ ?_
        refine T_zed [0, 1, 2, 3, 4, 5, 6, 7, 8, 9, 10, 11] 12 [(0, 1), (1, 1), (2, 1), (3, 1), (4, 1), (5, 1), (6, 1), (7, 1), (8, 1), (9, 2), (10, 1), (11, 1), (12, 3)] hmix (by kernel_rfl) fun w3 l3 => ?_
        have S3 := S6.like l3
        refine ZA_B (Like w3) (Like.refl _) ?_
        refine ZB_y rfl (y_move rfl) rfl ?_
        refine ZB_y rfl (y_move rfl) rfl ?_
        refine ZB_y rfl (y_nilp rfl) rfl ?_
        refine ZB_y rfl (y_fieldA 2 Try.underlying220 rfl sz185 rfl rfl rfl) rfl ?_
        refine ZB_y rfl (y_ldW Try.underlying185 rfl sz185 rfl (S3.blk 0 rfl) ⟨hashA_state _ _ _, by simp [Go.Proofs.Ytgaklngnfecdaaa.Sha.St.list]⟩) rfl ?_
        refine ZB_y rfl (y_move rfl) rfl ?_
        refine ZB_y rfl (y_nilp rfl) rfl ?_
        refine ZB_y rfl (y_fieldA 10 Try.underlying220 rfl sz218 rfl rfl rfl) rfl ?_
        refine ZB_y rfl (y_aslice Try.underlying218 sz5 rfl) rfl ?_
        refine ZB_o rfl (o_call Try.func156 rfl rfl (mix _ _ _ _ _ rfl _ (rest_reads (S3.blk 0 rfl) (by simp [h64]; omega))) rfl rfl ?_)
        rintro e4 w4 ⟨v4, rfl, l4, rfl⟩
        refine ⟨_, rfl, l4, ?_⟩
        have S4 := S3.like l4
        have q4 := l4
        refine ZB_y rfl (y_nilp rfl) rfl ?_
        refine ZB_y rfl (y_fieldA 2 Try.underlying220 rfl sz185 rfl rfl rfl) rfl ?_
        refine ZB_c rfl (o_stR S4 0 rfl rfl rfl (by exact sz185) (by rw [hashA_size]; simp [Go.Proofs.Ytgaklngnfecdaaa.Sha.St.list, uA]) (uA_one _) fun w5 S5 => ?_)
        refine ZA_nil ?_
        have e64 : (bL (p.take (64 - l.length % 64))).length = 64 - l.length % 64 := by omega
        have hp9 := hp.cutb (l := (bL (p.take (64 - l.length % 64))).length) (u := m) (by omega) (Nat.le_refl _)
        rw [e64] at hp9
        have hd9 : ((p.drop (64 - l.length % 64)).take (m - (64 - l.length % 64))) = p.drop (64 - l.length % 64) := List.take_of_length_le (by simp; omega)
        rw [hd9] at hp9
        have S7 := S5.blkc (cs' := hashA (l.length + m) (stv (l ++ p) ((l.length + (64 - l.length % 64)) / 64)) (rest.take (l.length % 64) ++ p.take (64 - l.length % 64) ++ rest.drop (l.length % 64 + (p.take (64 - l.length % 64)).length))) 0 rfl (by rw [stv_fill l p rest h64 hr (by omega) (by omega)]; exact hashA_put _ _ _ _)
        refine ⟨64 - l.length % 64, _, m - (64 - l.length % 64), _, _, (Sub.cons rfl (by first | rfl | exact congrArg (Value.int _) (by omega)) (Sub.cons rfl (by first | rfl | (rw [e64])) (Sub.nil _))), by omega, by omega, by omega, hp9, fun ad h0 had => cut_block hne (by omega) ad had, by simp [h64]; omega, S7⟩
    ·
      refine T_skip ?_
      exact ⟨0, A, m, c, rest, (Sub.cons rfl (by first | rfl | exact congrArg (Value.int _) (by omega)) (Sub.cons rfl (by first | rfl | (rw [e64])) (Sub.nil _))), by omega, by omega, by omega, by rw [List.drop_zero]; exact hp, hne, h64, S5.blkc 0 rfl (by rw [Nat.add_zero, stv_app l p _ (by omega)])⟩
  ·
    rintro e6 w6 ⟨j, A1, m1, c1, rest1, hsub, hj, hjm, hm1, hp1, hne1, h641, S6⟩
    refine T_weak hsub ?_
    refine T_seq fun K11 hK11 => ?_
    refine T_block ?_
    refine T_loop5 [(0, _)] (fun (j : Nat) (A1 : Option Addr) (m1 : Nat) (c1 : Nat) (rest1 : List UInt8) => [(1, .slice A1 m1 c1)]) (fun (j : Nat) (A1 : Option Addr) (m1 : Nat) (c1 : Nat) (rest1 : List UInt8) => m1) (fun (j : Nat) (A1 : Option Addr) (m1 : Nat) (c1 : Nat) (rest1 : List UInt8) (w : World) => j ≤ m ∧ (l.length + j) % 64 = 0 ∧ m1 = m - j ∧ Rs w0 1 A1 m1 c1 (bL (p.drop j)) ∧ (∀ ad, 0 < m1 → A1 = some ad → ad.block ≠ g) ∧ rest1.length = 64 ∧ Zx.St w0 (· = g) [blk g 220 (hashA (l.length + m) (stv (l ++ p) ((l.length + j) / 64)) rest1)] w) j A1 m1 c1 rest1 (Sub.cons rfl (by first | rfl | exact congrArg (Value.int _) (by omega)) (Sub.nil _)) (Sub.cons rfl rfl (Sub.nil _)) ?_ ?_
    ·
      exact ⟨hj, hjm, hm1, hp1, hne1, h641, S6⟩
    ·
      intro j A1 m1 c1 rest1 w7 hrel
      obtain ⟨hj, hjm, hm1, hp1, hne1, h641, S7⟩ := hrel
      refine T_seq fun K12 hK12 => ?_
      refine T_seq fun K13 hK13 => ?_
      refine T_region ?_
      refine L_y (y_move rfl) rfl ?_
      refine L_y (y_len Try.underlying27 rfl) rfl ?_
      refine L_y (y_geq rfl rfl) rfl ?_
      refine L_nil ?_
      refine hK13 _ _ ?_
      refine T_cond rfl (fun h61 => ?_) (fun h61 => ?_)
      ·
        refine T_skip ?_
        refine hK12 _ _ ?_
        refine T_seq fun K14 hK14 => ?_
        refine T_block ?_
        refine T_zed [0, 1, 2, 3, 4, 5, 6, 7, 8, 9] 10 [(0, 1), (1, 1), (2, 1), (3, 1), (4, 1), (5, 1), (6, 1), (7, 2), (8, 1), (9, 1), (10, 3)] hmix (by kernel_rfl) fun w8 l8 => ?_
        have S8 := S7.like l8
        refine ZA_B (Like w8) (Like.refl _) ?_
        have hcc := hp1.cap
        refine ZB_y rfl (y_move rfl) rfl ?_
        refine ZB_y rfl (y_move rfl) rfl ?_
        refine ZB_y rfl (y_nilp rfl) rfl ?_
        refine ZB_y rfl (y_fieldA 2 Try.underlying220 rfl sz185 rfl rfl rfl) rfl ?_
        refine ZB_y rfl (y_ldW Try.underlying185 rfl sz185 rfl (S8.blk 0 rfl) ⟨hashA_state _ _ _, by simp [Go.Proofs.Ytgaklngnfecdaaa.Sha.St.list]⟩) rfl ?_
        refine ZB_y rfl (y_move rfl) rfl ?_
        refine ZB_y rfl (y_sliceH Try.underlying27 sz5 rfl rfl inferInstance (by omega)) rfl ?_
        have hp8 := (S8.rdM hp1 hne1).cutb (l := 0) (u := 64) (by omega) (by omega)
        have hblk : ((l ++ p).drop (l.length + j)).take 64 = ((p.drop j).drop 0).take (64 - 0) := by rw [List.drop_append, List.drop_of_length_le (by omega), List.nil_append, Nat.add_sub_cancel_left, List.drop_zero]
        refine ZB_o rfl (o_call Try.func156 rfl rfl (mix _ _ _ _ _ rfl _ hp8) rfl rfl ?_)
        rintro e9 w9 ⟨v9, rfl, l9, rfl⟩
        refine ⟨_, rfl, l9, ?_⟩
        have S9 := S8.like l9
        have q9 := l9
        refine ZB_y rfl (y_nilp rfl) rfl ?_
        refine ZB_y rfl (y_fieldA 2 Try.underlying220 rfl sz185 rfl rfl rfl) rfl ?_
        refine ZB_c rfl (o_stR S9 0 rfl rfl rfl (by exact sz185) (by rw [hashA_size]; simp [Go.Proofs.Ytgaklngnfecdaaa.Sha.St.list, uA]) (uA_one _) fun w10 S10 => ?_)
        refine ZA_nil ?_
        refine hK14 _ _ ?_
        refine T_region ?_
        refine L_y (y_move rfl) rfl ?_
        refine L_y (y_sliceL Try.underlying27 sz5 rfl rfl inferInstance (by omega)) rfl ?_
        refine L_y (y_assign rfl) rfl ?_
        refine L_nil ?_
        have hp9 := hp1.cutb (l := 64) (u := m1) (by omega) (Nat.le_refl _)
        have hd9 : (((p.drop j).drop 64).take (m1 - 64)) = p.drop (j + 64) := by rw [List.drop_drop]; exact List.take_of_length_le (by simp; omega)
        rw [hd9] at hp9
        have S8 := S10.blkc (cs' := hashA (l.length + m) (stv (l ++ p) ((l.length + (j + 64)) / 64)) rest1) 0 rfl (by rw [← Nat.add_assoc, stv_next (l ++ p) _ hjm, hblk]; exact hashA_put _ _ _ _)
        refine ⟨j + 64, _, m1 - 64, _, rest1, by omega, ⟨by omega, by omega, by omega, hp9, fun ad h0 had => cut_block hne1 (by omega) ad had, h641, S8⟩, ?_⟩
        exact (Sub.cons rfl (by first | rfl | exact congrArg (Value.int _) (by omega)) (Sub.cons rfl rfl (Sub.nil _)))
      ·
        refine T_exit ?_
        refine hK11 _ _ ?_
        refine T_region ?_
        refine L_y (y_move rfl) rfl ?_
        refine L_y (y_nilp rfl) rfl ?_
        refine L_y (y_fieldA 10 Try.underlying220 rfl sz218 rfl rfl rfl) rfl ?_
        refine L_y (y_aslice Try.underlying218 sz5 rfl) rfl ?_
        refine L_y (y_move rfl) rfl ?_
        refine L_o (o_copyB (news := bL (p.drop j)) S7 0 rfl Try.underlying27 sz5 rfl rfl rfl (S7.rdM hp1 hne1) (by rw [List.take_of_length_le (by simp; omega)]) (by rw [hashA_size, length_bL, List.length_drop, h641]; omega) (bL_one _) rfl fun w11 S11 => ?_)
        refine L_nil ?_
        refine end0 rfl ?_
        have hB := (S11.blkc 0 rfl (hashA_copy _ _ _ _ 0 _ rfl (by omega))).blk 0 rfl
        have hh := HS_end (l ++ p) rest1 (l.length + j) h641 hjm (by rw [List.length_append]; omega) (by rw [List.length_append]; omega)
        rw [List.length_append, hpl, List.drop_append, List.drop_of_length_le (show l.length ≤ l.length + j by omega), List.nil_append, Nat.add_sub_cancel_left] at hh
        exact ⟨_, rfl, S11.only, _, hB, hh⟩
end Go.Proofs.Ytgaklngnfecdaaa.Sha


/-
  Sum, by package sha.
-/
namespace Go.Proofs.Ytgaklngnfecdaaa.Sha
open Go.RowKit Zk Zx
set_option linter.unusedVariables false
set_option linter.unusedSimpArgs false

/-- A number of 32 bits as bytes, the highest first. -/
def be4 (x : UInt32) : List UInt8 := [UInt8.ofNat (x.toNat / 16777216 % 256), UInt8.ofNat (x.toNat / 65536 % 256), UInt8.ofNat (x.toNat / 256 % 256), UInt8.ofNat (x.toNat % 256)]
def digL (v : Go.Proofs.Ytgaklngnfecdaaa.Sha.St) : List UInt8 := v.list.flatMap be4
theorem length_be4 (l : List UInt32) : (l.flatMap be4).length = 4 * l.length := by
  induction l with
  | nil => rfl
  | cons x l ih => simp only [List.flatMap_cons, List.length_append, ih, List.length_cons]; simp [be4]; omega
theorem length_digL (v : Go.Proofs.Ytgaklngnfecdaaa.Sha.St) : (digL v).length = 32 := by rw [digL, length_be4, list_8]
/-- The first i numbers laid. -/
def idU (v : Go.Proofs.Ytgaklngnfecdaaa.Sha.St) (i : Nat) : List UInt8 := (v.list.take i).flatMap be4 ++ List.replicate (32 - 4 * i) 0
theorem length_idU (v : Go.Proofs.Ytgaklngnfecdaaa.Sha.St) (i : Nat) (h : i ≤ 8) : (idU v i).length = 32 := by
  simp only [idU, List.length_append, length_be4, List.length_take, list_8, List.length_replicate]
  omega
theorem idU_8 (v : Go.Proofs.Ytgaklngnfecdaaa.Sha.St) : idU v 8 = digL v := by
  simp [idU, digL, Go.Proofs.Ytgaklngnfecdaaa.Sha.St.list]
theorem bA_set (l : List UInt8) (k : Nat) (c : UInt8) (x : Int) (hx : x = (c.toNat : Int)) : (bA l).setIfInBounds k (.int .u8 x) = bA (l.set k c) := by
  subst hx
  simp only [bA, bL, List.setIfInBounds_toArray, List.map_set]
  rfl
theorem take_next (v : Go.Proofs.Ytgaklngnfecdaaa.Sha.St) (i : Nat) (h : i < 8) : (v.list.take (i + 1)).flatMap be4 = (v.list.take i).flatMap be4 ++ be4 (v.list.getD i 0) := by
  rw [List.take_succ_eq_append_getElem (by rw [list_8]; exact h), List.flatMap_append]
  simp [List.getD_eq_getElem?_getD, List.getElem?_eq_getElem (show i < v.list.length by rw [list_8]; exact h)]
theorem set4 (pre post : List UInt8) (a b c d : UInt8) (k : Nat) (hk : pre.length = k) :
    ((((pre ++ 0 :: 0 :: 0 :: 0 :: post).set k a).set (k + 1) b).set (k + 2) c).set (k + 3) d = pre ++ [a, b, c, d] ++ post := by
  subst hk
  rw [List.set_append_right _ _ (by omega), List.set_append_right _ _ (by omega), List.set_append_right _ _ (by omega), List.set_append_right _ _ (by omega)]
  simp
theorem idU_set (v : Go.Proofs.Ytgaklngnfecdaaa.Sha.St) (i : Nat) (h : i < 8) :
    (((((bA (idU v i)).setIfInBounds (4 * i) (.int .u8 (N (v.list.getD i 0) / 16777216 % 256))).setIfInBounds (4 * i + 1) (.int .u8 (N (v.list.getD i 0) / 65536 % 256))).setIfInBounds (4 * i + 2) (.int .u8 (N (v.list.getD i 0) / 256 % 256))).setIfInBounds (4 * i + 3) (.int .u8 (N (v.list.getD i 0) % 256))) = bA (idU v (i + 1)) := by
  generalize hx : v.list.getD i 0 = x
  rw [bA_set _ _ (UInt8.ofNat (x.toNat / 16777216 % 256)) _ (by rw [UInt8.toNat_ofNat']; unfold N; omega), bA_set _ _ (UInt8.ofNat (x.toNat / 65536 % 256)) _ (by rw [UInt8.toNat_ofNat']; unfold N; omega),
    bA_set _ _ (UInt8.ofNat (x.toNat / 256 % 256)) _ (by rw [UInt8.toNat_ofNat']; unfold N; omega), bA_set _ _ (UInt8.ofNat (x.toNat % 256)) _ (by rw [UInt8.toNat_ofNat']; unfold N; omega)]
  congr 1
  have e : List.replicate (32 - 4 * i) (0 : UInt8) = 0 :: 0 :: 0 :: 0 :: List.replicate (32 - 4 * (i + 1)) 0 := by
    rw [show 32 - 4 * i = (32 - 4 * (i + 1)) + 1 + 1 + 1 + 1 by omega]
    simp [List.replicate_succ]
  unfold idU
  rw [e, set4 _ _ _ _ _ _ (4 * i) (by rw [length_be4, List.length_take, list_8]; omega), take_next v i h, hx]
  simp [be4]
/-- The sum of l. -/
def ofL (l : List UInt8) : List UInt8 := digL (stv (l ++ padR l.length) ((l ++ padR l.length).length / 64))
theorem shrF (x : UInt32) (k p : Nat) (hk : k ≤ 32) (hp : 2 ^ k = p) : Int.fdiv (N x) (2 ^ (min ((k : Nat) : Int).toNat IntKind.u32.bits)) = N x / (p : Int) := by
  have e : min ((k : Nat) : Int).toNat IntKind.u32.bits = k := by simp only [IntKind.bits]; omega
  rw [e, Int.fdiv_eq_ediv_of_nonneg _ (Int.pow_nonneg (by omega)), ← hp]
  simp


theorem hashA_one (n : Nat) (v : Go.Proofs.Ytgaklngnfecdaaa.Sha.St) (rest : List UInt8) : ∀ u ∈ (hashA n v rest).toList, u.oneCell' = true := by
  intro u hu
  rw [hashA_split] at hu
  rcases List.mem_append.1 hu with h | h
  · rcases List.mem_cons.1 h with rfl | h
    · rfl
    · rcases List.mem_cons.1 h with rfl | h
      · rfl
      · exact uL_one _ u h
  · exact bL_one _ u h
def z32 : List UInt8 := List.replicate 32 0
set_option maxRecDepth 100000 in
set_option maxHeartbeats 1000000 in
theorem sum (g : Nat) (l : List UInt8) (cs : Array Value) (w0 : World) (hb : Blk w0 g 220 cs) (hs : HS l cs) (hlen : l.length ≤ 100000) :
    Calls Try.prog 118 #[.pointer (some ⟨g, 0, none⟩)] w0 fun e w' => ∃ u, e = .returned u ∧ Like w0 w' ∧ u = .agg (bA (ofL l)) := by
  obtain ⟨rest, h64, hr, rfl⟩ := hs
  refine enter1 (env := [(0, .pointer (some ⟨g, 0, none⟩))]) [.pointer (some ⟨g, 0, none⟩)] Try.func118 rfl Try.ntmps118 rfl rfl ?_
  have S0 := St.start w0 noM
  refine T_seq fun K1 hK1 => ?_
  refine T_region ?_
  refine L_o (o_alloc zz23 S0 rfl fun b1 w1 hb1 S1 => ?_)
  refine L_nil ?_
  refine hK1 _ _ ?_
  refine T_seq fun K2 hK2 => ?_
  refine T_seq fun K3 hK3 => ?_
  refine T_region ?_
  refine L_y (y_move rfl) rfl ?_
  refine L_y (y_peqn Try.underlying181 rfl) rfl ?_
  refine L_y (y_move rfl) rfl ?_
  refine L_gyes rfl rfl ?_
  refine L_y (y_move rfl) rfl ?_
  refine L_gyes rfl rfl ?_
  refine L_y (y_nilp rfl) rfl ?_
  refine L_gyes rfl rfl ?_
  refine L_y (y_fieldA 0 Try.underlying220 rfl sz4 rfl rfl rfl) rfl ?_
  refine L_gyes rfl rfl ?_
  refine L_y (y_ldc Try.underlying4 rfl rfl (((S1.rdB hb).cell _).trans (by rfl))) rfl ?_
  refine L_gyes rfl rfl ?_
  refine L_y ((by first | exact y_notD rfl | exact y_not rfl)) rfl ?_
  refine L_y ((by first | exact y_pickT rfl rfl | exact y_pickF rfl rfl)) rfl ?_
  refine L_nil ?_
  refine hK3 _ _ ?_
  refine T_false rfl ?_
  refine T_skip ?_
  refine hK2 _ _ ?_
  refine T_seq fun K4 hK4 => ?_
  refine T_region ?_
  refine L_y (y_move rfl) rfl ?_
  refine L_y (y_nilp rfl) rfl ?_
  refine L_y (y_ldW (size := 74) (vs := (hashA l.length (stv l (l.length / 64)) rest).toList) Try.underlying220 rfl sz220 rfl (S1.rdB hb) ⟨by rw [List.drop_zero]; exact List.take_of_length_le (by simp [hashA_size, h64]), by simp [hashA_size, h64]⟩) rfl ?_
  refine L_o (o_alloc zz220 S1 rfl fun b2 w2 hb2 S2 => ?_)
  refine L_o (o_stW S2 1 rfl rfl rfl (by rw [List.size_toArray, Array.length_toList, hashA_size, h64]; exact sz220) (by rw [List.size_toArray, Array.length_toList, hashA_size, h64]; simp [Value.cells]) (hashA_one _ _ _) fun w3 S3 => ?_)
  refine L_nil ?_
  refine hK4 _ _ ?_
  refine T_seq fun K5 hK5 => ?_
  refine T_region ?_
  refine L_y (y_move rfl) rfl ?_
  refine L_y (y_nilp rfl) rfl ?_
  refine L_y (y_fieldA 1 Try.underlying220 rfl sz127 rfl rfl rfl) rfl ?_
  refine L_y (y_ldc Try.underlying127 rfl rfl (((S3.rdB hb).cell _).trans (by rfl))) rfl ?_
  refine L_o (o_call Try.func157 rfl rfl (shapad l.length (by omega) _) rfl rfl ?_)
  rintro e4 w4 ⟨v4, rfl, l4, A4, m4, c4, rfl, o4⟩
  refine ⟨_, rfl, ?_⟩
  have S4 := S3.adopt l4 o4
  have hpm := (S4.row 2 rfl).lenb
  rw [length_padR] at hpm
  have hgp : gapR l.length ≤ 63 := by unfold gapR; omega
  refine L_o (o_call Try.func117 rfl rfl (write _ l (padR l.length) _ _ _ _ _ (S4.blk 1 rfl) ⟨rest, h64, hr, rfl⟩ (S4.row 2 rfl) (S4.row_ne 2 1 rfl rfl rfl) (by omega)) rfl rfl ?_)
  rintro e5 w5 ⟨u5, rfl, hgb, cs', hB', rest2, h642, hr2, rfl⟩
  refine ⟨_, rfl, ?_⟩
  have S5 := S4.wrote (r' := blk _ _ _) 1 rfl (fun i => Iff.rfl) (fun i h => h) hgb hB'
  have hBv := S5.blk 1 rfl
  generalize hV : stv (l ++ padR l.length) ((l ++ padR l.length).length / 64) = V at hBv S5
  refine L_nil ?_
  refine hK5 _ _ ?_
  refine T_seq fun K6 hK6 => ?_
  refine T_region ?_
  refine L_o (o_alloc zz23 S5 rfl fun b6 w6 hb6 S6 => ?_)
  refine L_nil ?_
  refine hK6 _ _ ?_
  refine T_seq fun K7 hK7 => ?_
  refine T_seq fun K8 hK8 => ?_
  refine T_region ?_
  refine L_y (y_fieldA 2 Try.underlying220 rfl sz185 rfl rfl rfl) rfl ?_
  refine L_y (y_ldW Try.underlying185 rfl sz185 rfl (S6.blk 1 rfl) ⟨hashA_state _ _ _, by simp [Go.Proofs.Ytgaklngnfecdaaa.Sha.St.list]⟩) rfl ?_
  refine L_y (y_move rfl) rfl ?_
  refine L_nil ?_
  refine hK8 _ _ ?_
  refine T_block ?_
  refine T_loop1 [(2, _), (4, _), (27, _)] (fun (i : Nat) => [(28, .int .i64 (i : Int))]) (fun (i : Nat) => 8 - i) (fun (i : Nat) (w : World) => i ≤ 8 ∧ Zx.St w0 noM [blk b1 23 (bA z32), blk b2 220 (hashA (l ++ padR l.length).length V rest2), row 5 1 A4 m4 c4 (bL (padR l.length)), blk b6 23 (bA (idU V i))] w) 0 (Sub.cons rfl (by first | rfl | exact congrArg (Value.int _) (by omega)) (Sub.nil _)) (Sub.cons rfl rfl (Sub.cons rfl rfl (Sub.cons rfl rfl (Sub.nil _)))) ?_ ?_
  ·
    exact ⟨by omega, S6⟩
  ·
    intro i w7 hrel
    obtain ⟨hi, S7⟩ := hrel
    refine T_seq fun K9 hK9 => ?_
    refine T_region ?_
    refine L_y (y_lss rfl rfl) rfl ?_
    refine L_nil ?_
    refine hK9 _ _ ?_
    refine T_seq fun K10 hK10 => ?_
    refine T_cond rfl (fun h29 => ?_) (fun h29 => ?_)
    ·
      refine T_skip ?_
      refine hK10 _ _ ?_
      refine T_seq fun K11 hK11 => ?_
      refine T_block ?_
      refine T_seq fun K12 hK12 => ?_
      refine T_region ?_
      refine L_y (y_move rfl) rfl ?_
      refine L_y (y_idxV Try.underlying185 Try.underlying60 rfl sz60 rfl rfl inferInstance (by omega) (uA_get' _ _ (by rw [list_8]; omega))) rfl ?_
      refine L_y (y_assign rfl) rfl ?_
      refine L_y (y_assign rfl) rfl ?_
      refine L_nil ?_
      refine hK12 _ _ ?_
      refine T_region ?_
      refine L_y (y_move rfl) rfl ?_
      refine L_y (y_mul rfl rfl (i64w (by omega))) rfl ?_
      refine L_y (y_move rfl) rfl ?_
      refine L_y (y_mul rfl rfl (i64w (by omega))) rfl ?_
      refine L_y (y_add rfl rfl (i64w (by omega))) rfl ?_
      refine L_y (y_move rfl) rfl ?_
      refine L_y (y_mul rfl rfl (i64w (by omega))) rfl ?_
      refine L_y (y_add rfl rfl (i64w (by omega))) rfl ?_
      refine L_y (y_move rfl) rfl ?_
      refine L_y (y_mul rfl rfl (i64w (by omega))) rfl ?_
      refine L_y (y_add rfl rfl (i64w (by omega))) rfl ?_
      refine L_y (y_move rfl) rfl ?_
      refine L_y (y_shr rfl rfl (by omega) (shrF _ 24 16777216 (by omega) rfl)) rfl ?_
      refine L_y (y_conv is60 Try.underlying5 rfl (IntKind.wrap_u8 _)) rfl ?_
      refine L_y (y_move rfl) rfl ?_
      refine L_y (y_shr rfl rfl (by omega) (shrF _ 16 65536 (by omega) rfl)) rfl ?_
      refine L_y (y_conv is60 Try.underlying5 rfl (IntKind.wrap_u8 _)) rfl ?_
      refine L_y (y_move rfl) rfl ?_
      refine L_y (y_shr rfl rfl (by omega) (shrF _ 8 256 (by omega) rfl)) rfl ?_
      refine L_y (y_conv is60 Try.underlying5 rfl (IntKind.wrap_u8 _)) rfl ?_
      refine L_y (y_move rfl) rfl ?_
      refine L_y (y_conv is60 Try.underlying5 rfl (IntKind.wrap_u8 _)) rfl ?_
      refine L_y (y_idxA0 Try.underlying23 sz5 rfl rfl inferInstance (by omega)) rfl ?_
      refine L_o (o_st1 S7 3 rfl rfl rfl rfl sz5 (by simp [bA, bL, length_idU V i (by omega)]; omega) fun w8 S8 => ?_)
      refine L_y (y_idxA0 Try.underlying23 sz5 rfl rfl inferInstance (by omega)) rfl ?_
      refine L_o (o_st1 S8 3 rfl rfl rfl rfl sz5 (by simp [bA, bL, length_idU V i (by omega)]; omega) fun w9 S9 => ?_)
      refine L_y (y_idxA0 Try.underlying23 sz5 rfl rfl inferInstance (by omega)) rfl ?_
      refine L_o (o_st1 S9 3 rfl rfl rfl rfl sz5 (by simp [bA, bL, length_idU V i (by omega)]; omega) fun w10 S10 => ?_)
      refine L_y (y_idxA0 Try.underlying23 sz5 rfl rfl inferInstance (by omega)) rfl ?_
      refine L_o (o_st1 S10 3 rfl rfl rfl rfl sz5 (by simp [bA, bL, length_idU V i (by omega)]; omega) fun w11 S11 => ?_)
      refine L_nil ?_
      refine hK11 _ _ ?_
      refine T_region ?_
      refine L_y (y_add rfl rfl (i64w (by omega))) rfl ?_
      refine L_y (y_move rfl) rfl ?_
      refine L_nil ?_
      have S9 := S11.blkc 3 rfl (idU_set V i (by omega))
      refine ⟨i + 1, by omega, ⟨by omega, S9⟩, ?_⟩
      exact (Sub.cons rfl (by first | rfl | exact congrArg (Value.int _) (by omega)) (Sub.cons rfl rfl (Sub.cons rfl rfl (Sub.cons rfl rfl (Sub.nil _)))))
    ·
      obtain rfl : i = 8 := by omega
      refine T_exit ?_
      refine hK7 _ _ ?_
      refine T_seq fun K13 hK13 => ?_
      refine T_region ?_
      refine L_y (y_ldW (size := 32) (vs := bL (digL V)) Try.underlying23 rfl sz23 rfl (S7.blk 3 rfl) ⟨by rw [List.drop_zero, idU_8]; exact List.take_of_length_le (by rw [Array.length_toList, size_bA, length_digL]; omega), by rw [length_bL, length_digL]⟩) rfl ?_
      refine L_o (o_stW S7 0 rfl rfl rfl (by rw [List.size_toArray, length_bL, length_digL]; exact sz23) (by rw [List.size_toArray, length_bL, length_digL]; simp [bA, z32]) (bL_one _) fun w12 S12 => ?_)
      refine L_nil ?_
      refine hK13 _ _ ?_
      refine T_ret ?_
      repeat (first | with_reducible refine up_then ?_ | with_reducible refine up_in ?_)
      refine retc rfl rfl (S12.blk 0 rfl) Try.underlying23 rfl (by rw [List.size_toArray, length_bL, length_digL]; exact sz23) ?_
      exact ⟨_, rfl, S12.like0, by rw [ofL, hV]; rfl⟩
end Go.Proofs.Ytgaklngnfecdaaa.Sha


/-
  The sum, by the reference.
-/
namespace Go.Proofs.Ytgaklngnfecdaaa.Sha
open Go.RowKit Zk Zx
set_option linter.unusedVariables false
set_option linter.unusedSimpArgs false

theorem whole8 (v : Go.Proofs.Ytgaklngnfecdaaa.Sha.St) : ((uA v.list).toList.drop 0).take 8 = uL v.list ∧ (uL v.list).length = 8 :=
  ⟨by rw [List.drop_zero]; exact List.take_of_length_le (by rw [Array.length_toList, size_uA, list_8]; omega), by rw [length_uL, list_8]⟩
/-- q bytes of the number k laid, from the last on. -/
def idR (v : Go.Proofs.Ytgaklngnfecdaaa.Sha.St) (k q : Nat) : List UInt8 := (v.list.take k).flatMap be4 ++ (List.replicate (4 - q) 0 ++ (be4 (v.list.getD k 0)).drop (4 - q) ++ List.replicate (32 - 4 * (k + 1)) 0)
theorem idR_0 (v : Go.Proofs.Ytgaklngnfecdaaa.Sha.St) (k : Nat) (h : k < 8) : idR v k 0 = idU v k := by
  unfold idR idU
  congr 1
  rw [show 32 - 4 * k = 4 + (32 - 4 * (k + 1)) by omega, ← List.replicate_append_replicate]
  simp [be4]
theorem idR_4 (v : Go.Proofs.Ytgaklngnfecdaaa.Sha.St) (k : Nat) (h : k < 8) : idR v k 4 = idU v (k + 1) := by
  unfold idR idU
  rw [take_next v k h]
  simp [be4]
theorem length_idR (v : Go.Proofs.Ytgaklngnfecdaaa.Sha.St) (k q : Nat) (h : k < 8) (hq : q ≤ 4) : (idR v k q).length = 32 := by
  simp only [idR, List.length_append, length_be4, List.length_take, list_8, List.length_replicate, List.length_drop]
  simp only [be4, List.length_cons, List.length_nil]
  omega
theorem idR_set (v : Go.Proofs.Ytgaklngnfecdaaa.Sha.St) (k q : Nat) (h : k < 8) (hq : q < 4) :
    (bA (idR v k q)).setIfInBounds (4 * k + (3 - q)) (.int .u8 (N (v.list.getD k 0) / 256 ^ q % 256 % 256)) = bA (idR v k (q + 1)) := by
  generalize hx : v.list.getD k 0 = x
  have hp : ((v.list.take k).flatMap be4).length = 4 * k := by rw [length_be4, List.length_take, list_8]; omega
  have e : ∀ (c : UInt8), (idR v k q).set (4 * k + (3 - q)) c = (v.list.take k).flatMap be4 ++ ((List.replicate (4 - q) 0 ++ (be4 x).drop (4 - q) ++ List.replicate (32 - 4 * (k + 1)) 0).set (3 - q) c) := fun c => by
    unfold idR
    rw [List.set_append_right _ _ (by omega), hp, hx]
    congr 2
    omega
  have hq' : q = 0 ∨ q = 1 ∨ q = 2 ∨ q = 3 := by omega
  rcases hq' with rfl | rfl | rfl | rfl
  · rw [bA_set _ _ (UInt8.ofNat (x.toNat % 256)) _ (by rw [UInt8.toNat_ofNat']; unfold N; omega), e]
    unfold idR; rw [hx]; simp [be4]
  · rw [bA_set _ _ (UInt8.ofNat (x.toNat / 256 % 256)) _ (by rw [UInt8.toNat_ofNat']; unfold N; omega), e]
    unfold idR; rw [hx]; simp [be4]
  · rw [bA_set _ _ (UInt8.ofNat (x.toNat / 65536 % 256)) _ (by rw [UInt8.toNat_ofNat']; unfold N; omega), e]
    unfold idR; rw [hx]; simp [be4]
  · rw [bA_set _ _ (UInt8.ofNat (x.toNat / 16777216 % 256)) _ (by rw [UInt8.toNat_ofNat']; unfold N; omega), e]
    unfold idR; rw [hx]; simp [be4]
theorem N_div (x : UInt32) (q : Nat) : 0 ≤ N x / 256 ^ q ∧ N x / 256 ^ q ≤ 4294967295 := by
  have h1 := N_ge x
  have h2 := N_le x
  have h3 : (0 : Int) < 256 ^ q := Int.pow_pos (by omega)
  refine ⟨Int.ediv_nonneg h1 (by omega), ?_⟩
  exact Int.le_trans (Int.ediv_le_self _ h1) h2
theorem divq (x : UInt32) (q : Nat) : N x / 256 ^ q / 256 = N x / 256 ^ (q + 1) := by
  rw [Int.pow_succ, Int.ediv_ediv_of_nonneg (Int.pow_nonneg (by omega))]


set_option maxRecDepth 100000 in
set_option maxHeartbeats 1000000 in
theorem refof (l : List UInt8) (A : Option Addr) (n c : Nat) (w0 : World) (ha : Rs w0 1 A n c (bL l)) (hlen : n ≤ 100000) :
    Calls Try.prog 79 #[.slice A n c] w0 fun e w' => ∃ u, e = .returned u ∧ Like w0 w' ∧ u = .agg (bA (ofL l)) := by
  refine enter1 (env := [(0, .slice A n c)]) [.slice A n c] Try.func79 rfl Try.ntmps79 rfl rfl ?_
  have S0 := St.start w0 noM
  refine T_seq fun K1 hK1 => ?_
  refine T_region ?_
  refine L_o (o_alloc zz23 S0 rfl fun b1 w1 hb1 S1 => ?_)
  refine L_nil ?_
  refine hK1 _ _ ?_
  refine T_seq fun K2 hK2 => ?_
  refine T_region ?_
  have S2 := S1.nilrow 5 1
  refine L_y (y_assign rfl) rfl ?_
  refine L_nil ?_
  refine hK2 _ _ ?_
  refine T_seq fun K3 hK3 => ?_
  refine T_region ?_
  refine L_y (y_move rfl) rfl ?_
  refine L_y (y_move rfl) rfl ?_
  refine L_o (o_app te27 S2 1 rfl rfl rfl (by first | exact S2.rd ha | exact S2.row 1 rfl) (by first | exact bL_one _ | exact iL_one _ | (intro u hu; simp at hu; subst hu; rfl) | (simp; done) | (simp [Value.oneCell']; done)) rfl (by omega) (by omega) fun A3 c3 w3 S3 => ?_)
  have hln : l.length = n := ha.lenb
  refine L_y (y_assign rfl) rfl ?_
  refine L_nil ?_
  refine hK3 _ _ ?_
  refine T_seq fun K4 hK4 => ?_
  refine T_region ?_
  refine L_y (y_move rfl) rfl ?_
  refine L_y (y_move rfl) rfl ?_
  refine L_y (y_len Try.underlying27 rfl) rfl ?_
  refine L_y (y_conv is3 Try.underlying127 rfl (u64w (by omega))) rfl ?_
  refine L_o (o_call Try.func121 rfl rfl (refpad n (by omega) _) rfl rfl ?_)
  rintro e4 w4 ⟨v4, rfl, l4, A4, m4, c4, rfl, o4⟩
  refine ⟨_, rfl, ?_⟩
  have S4 := S3.adopt l4 o4
  have hpm := (S4.row 2 rfl).lenb
  rw [length_padR] at hpm
  have hgp : gapR n ≤ 63 := by unfold gapR; omega
  refine L_o (o_app te27 S4 1 rfl rfl rfl (by first | exact S4.rd ha | exact S4.row 1 rfl | exact S4.row 2 rfl) (by first | exact bL_one _ | exact iL_one _ | (intro u hu; simp at hu; subst hu; rfl) | (simp; done) | (simp [Value.oneCell']; done)) rfl (by omega) (by omega) fun A5 c5 w5 S5 => ?_)
  have S9 := (S5.rowc 1 rfl (n' := n + m4) (xs' := bL (l ++ padR l.length)) (by omega) (by rw [bL_app, hln]; rfl))
  have hal : (l ++ padR l.length).length = n + m4 := by rw [List.length_append, length_padR, hln, ← hpm]
  generalize hAL : l ++ padR l.length = al at S9 hal
  have hofl : ofL l = digL (stv al (al.length / 64)) := by rw [ofL, hAL]
  refine L_y (y_assign rfl) rfl ?_
  refine L_nil ?_
  refine hK4 _ _ ?_
  refine T_seq fun K5 hK5 => ?_
  refine T_region ?_
  refine L_o (o_call Try.func122 rfl rfl (refstart _) rfl rfl ?_)
  rintro e6 w6 ⟨v6, rfl, l6, rfl⟩
  refine ⟨_, rfl, ?_⟩
  have S6 := S9.like l6
  refine L_o (o_alloc zz185 S6 rfl fun b7 w7 hb7 S7 => ?_)
  refine L_o (o_stW S7 3 rfl rfl rfl (by exact sz185) (by rw [size_uA, list_8]; simp [Value.cells, uA, list_8]) (uA_one _) fun w8 S8 => ?_)
  refine L_nil ?_
  refine hK5 _ _ ?_
  refine T_seq fun K6 hK6 => ?_
  refine T_seq fun K7 hK7 => ?_
  refine T_region ?_
  refine L_y (y_assign rfl) rfl ?_
  refine L_nil ?_
  refine hK7 _ _ ?_
  refine T_block ?_
  refine T_loop1 [(2, _), (3, _), (4, _)] (fun (j : Nat) => [(5, .int .i64 ((64 * j : Nat) : Int))]) (fun (j : Nat) => al.length / 64 - j) (fun (j : Nat) (w : World) => j ≤ al.length / 64 ∧ Zx.St w0 noM [blk b1 23 (bA z32), row 5 1 A5 (n + m4) c5 (bL al), row 5 1 A4 m4 c4 (bL (padR n)), blk b7 185 (uA (stv al j).list)] w) 0 (Sub.cons rfl (by first | rfl | exact congrArg (Value.int _) (by omega)) (Sub.nil _)) (Sub.cons rfl rfl (Sub.cons rfl rfl (Sub.cons rfl rfl (Sub.nil _)))) ?_ ?_
  ·
    exact ⟨Nat.zero_le _, S8⟩
  ·
    intro j w9 hrel
    obtain ⟨hj, S9⟩ := hrel
    refine T_seq fun K8 hK8 => ?_
    refine T_seq fun K9 hK9 => ?_
    refine T_region ?_
    refine L_y (y_move rfl) rfl ?_
    refine L_y (y_add rfl rfl (i64w (by omega))) rfl ?_
    refine L_y (y_move rfl) rfl ?_
    refine L_y (y_len Try.underlying27 rfl) rfl ?_
    refine L_y (y_leq rfl rfl) rfl ?_
    refine L_nil ?_
    refine hK9 _ _ ?_
    refine T_cond rfl (fun h24 => ?_) (fun h24 => ?_)
    ·
      refine T_skip ?_
      refine hK8 _ _ ?_
      refine T_seq fun K10 hK10 => ?_
      refine T_block ?_
      refine T_tail 6 hmix (by kernel_rfl) fun w10 l10 K11 hK11 => ?_
      have S10 := S9.like l10
      refine HL_y (y_ldW Try.underlying185 rfl sz185 rfl (S10.blk 3 rfl) (whole8 _)) rfl ?_
      have hcc := (S10.row 1 rfl).cap
      refine HL_y (y_move rfl) rfl ?_
      refine HL_y (y_move rfl) rfl ?_
      refine HL_y (y_move rfl) rfl ?_
      refine HL_y (y_add rfl rfl (i64w (by omega))) rfl ?_
      refine HL_y (y_slice Try.underlying27 sz5 rfl rfl rfl inferInstance inferInstance (by omega) (by omega)) rfl ?_
      refine HL_nil ?_
      refine hK11 _ ?_
      have hc9 := (S10.row 1 rfl).cutb (l := 64 * j) (u := 64 * j + 64) (by omega) (by omega)
      have hblk : stv al (j + 1) = blockS (stv al j) ((al.drop (64 * j)).take (64 * j + 64 - 64 * j)) := by rw [show 64 * j + 64 - 64 * j = 64 by omega]; rfl
      refine L_o (o_call Try.func123 rfl rfl (refblock _ _ _ _ _ (by omega) _ hc9) rfl rfl ?_)
      rintro e11 w11 ⟨v11, rfl, l11, rfl⟩
      refine ⟨_, rfl, ?_⟩
      have S11 := S10.like l11
      refine L_o (o_stW S11 3 rfl rfl rfl (by exact sz185) (by rw [size_uA, list_8]; simp [Value.cells, uA, list_8]) (uA_one _) fun w12 S12 => ?_)
      refine L_nil ?_
      refine hK10 _ _ ?_
      refine T_region ?_
      refine L_y (y_move rfl) rfl ?_
      refine L_y (y_add rfl rfl (i64w (by omega))) rfl ?_
      refine L_y (y_assign rfl) rfl ?_
      refine L_nil ?_
      have S8 := S12.blkc (cs' := uA (stv al (j + 1)).list) 3 rfl (by rw [hblk])
      refine ⟨j + 1, by omega, ⟨by omega, S8⟩, ?_⟩
      exact (Sub.cons rfl (by first | rfl | exact congrArg (Value.int _) (by omega)) (Sub.cons rfl rfl (Sub.cons rfl rfl (Sub.cons rfl rfl (Sub.nil _)))))
    ·
      obtain rfl : j = al.length / 64 := by omega
      generalize hV : stv al (al.length / 64) = V at hofl S9 ⊢
      refine T_exit ?_
      refine hK6 _ _ ?_
      refine T_seq fun K12 hK12 => ?_
      refine T_region ?_
      refine L_o (o_alloc zz23 S9 rfl fun b13 w13 hb13 S13 => ?_)
      refine L_nil ?_
      refine hK12 _ _ ?_
      refine T_seq fun K13 hK13 => ?_
      refine T_seq fun K14 hK14 => ?_
      refine T_region ?_
      refine L_y (y_assign rfl) rfl ?_
      refine L_nil ?_
      refine hK14 _ _ ?_
      refine T_block ?_
      refine T_loop1 [(2, _), (4, _), (6, _)] (fun (k : Nat) => [(7, .int .i64 (k : Int))]) (fun (k : Nat) => 8 - k) (fun (k : Nat) (w : World) => k ≤ 8 ∧ Zx.St w0 noM [blk b1 23 (bA z32), row 5 1 A5 (n + m4) c5 (bL al), row 5 1 A4 m4 c4 (bL (padR n)), blk b7 185 (uA V.list), blk b13 23 (bA (idU V k))] w) 0 (Sub.cons rfl (by first | rfl | exact congrArg (Value.int _) (by omega)) (Sub.nil _)) (Sub.cons rfl rfl (Sub.cons rfl rfl (Sub.cons rfl rfl (Sub.nil _)))) ?_ ?_
      ·
        exact ⟨by omega, S13⟩
      ·
        intro k w14 hrel
        obtain ⟨hk, S14⟩ := hrel
        refine T_seq fun K15 hK15 => ?_
        refine T_seq fun K16 hK16 => ?_
        refine T_region ?_
        refine L_y (y_move rfl) rfl ?_
        refine L_y (y_lss rfl rfl) rfl ?_
        refine L_nil ?_
        refine hK16 _ _ ?_
        refine T_cond rfl (fun h35 => ?_) (fun h35 => ?_)
        ·
          refine T_skip ?_
          refine hK15 _ _ ?_
          refine T_seq fun K17 hK17 => ?_
          refine T_block ?_
          refine T_seq fun K18 hK18 => ?_
          refine T_region ?_
          refine L_y (y_move rfl) rfl ?_
          refine L_y (y_idxA0 Try.underlying185 sz60 rfl rfl inferInstance (by omega)) rfl ?_
          refine L_y (y_ldc Try.underlying60 rfl rfl (((S14.blk 3 rfl).cell _).trans (uA_get' _ _ (by rw [list_8]; omega)))) rfl ?_
          refine L_y (y_assign rfl) rfl ?_
          refine L_nil ?_
          refine hK18 _ _ ?_
          refine T_seq fun K19 hK19 => ?_
          refine T_region ?_
          refine L_y (y_assign rfl) rfl ?_
          refine L_nil ?_
          refine hK19 _ _ ?_
          refine T_block ?_
          refine T_loop1 [(2, _), (4, _), (6, _), (7, _)] (fun (q : Nat) => [(8, .int .u32 (N (V.list.getD k 0) / 256 ^ q)), (9, .int .i64 (3 - (q : Int)))]) (fun (q : Nat) => 4 - q) (fun (q : Nat) (w : World) => q ≤ 4 ∧ Zx.St w0 noM [blk b1 23 (bA z32), row 5 1 A5 (n + m4) c5 (bL al), row 5 1 A4 m4 c4 (bL (padR n)), blk b7 185 (uA V.list), blk b13 23 (bA (idR V k q))] w) 0 (Sub.cons rfl (by first | rfl | exact congrArg (Value.int _) (by simp)) (Sub.cons rfl (by first | rfl | exact congrArg (Value.int _) (by simp)) (Sub.nil _))) (Sub.cons rfl rfl (Sub.cons rfl rfl (Sub.cons rfl rfl (Sub.cons rfl rfl (Sub.nil _))))) ?_ ?_
          ·
            exact ⟨by omega, S14.blkc 4 rfl (congrArg bA (idR_0 V k (by omega)).symm)⟩
          ·
            intro q w15 hrel
            obtain ⟨hq, S15⟩ := hrel
            have hnd := N_div (V.list.getD k 0) q
            refine T_seq fun K20 hK20 => ?_
            refine T_seq fun K21 hK21 => ?_
            refine T_region ?_
            refine L_y (y_move rfl) rfl ?_
            refine L_y (y_geq rfl rfl) rfl ?_
            refine L_nil ?_
            refine hK21 _ _ ?_
            refine T_cond rfl (fun h42 => ?_) (fun h42 => ?_)
            ·
              refine T_skip ?_
              refine hK20 _ _ ?_
              refine T_seq fun K22 hK22 => ?_
              refine T_block ?_
              refine T_seq fun K23 hK23 => ?_
              refine T_region ?_
              refine L_y (y_move rfl) rfl ?_
              refine L_y (y_mul rfl rfl (i64w (by omega))) rfl ?_
              refine L_y (y_move rfl) rfl ?_
              refine L_y (y_add rfl rfl (i64w (by omega))) rfl ?_
              refine L_y (y_move rfl) rfl ?_
              refine L_y (y_rem rfl rfl (by omega) (remI (by omega))) rfl ?_
              refine L_y (y_conv is60 Try.underlying5 rfl (IntKind.wrap_u8 _)) rfl ?_
              refine L_y (y_idxA0 Try.underlying23 sz5 rfl rfl (Nt.mk (by omega) : Nt _ (4 * k + (3 - q))) (by omega)) rfl ?_
              refine L_o (o_st1 S15 4 rfl rfl rfl rfl sz5 (by rw [size_bA, length_idR V k q (by omega) (by omega)]; omega) fun w16 S16 => ?_)
              refine L_nil ?_
              refine hK23 _ _ ?_
              refine T_region ?_
              refine L_y (y_move rfl) rfl ?_
              refine L_y (y_quo rfl rfl (by omega) (quo32 (by omega) (by omega))) rfl ?_
              refine L_y (y_assign rfl) rfl ?_
              refine L_nil ?_
              refine hK22 _ _ ?_
              refine T_region ?_
              refine L_y (y_move rfl) rfl ?_
              refine L_y (y_sub rfl rfl (i64w (by omega))) rfl ?_
              refine L_y (y_assign rfl) rfl ?_
              refine L_nil ?_
              have S8 := S16.blkc 4 rfl (idR_set V k q (by omega) (by omega))
              refine ⟨q + 1, by omega, ⟨by omega, S8⟩, ?_⟩
              exact (Sub.cons rfl (congrArg (Value.int _) (divq _ _)) (Sub.cons rfl (congrArg (Value.int _) (by omega)) (Sub.cons rfl rfl (Sub.cons rfl rfl (Sub.cons rfl rfl (Sub.cons rfl rfl (Sub.nil _)))))))
            ·
              obtain rfl : q = 4 := by omega
              refine T_exit ?_
              refine hK17 _ _ ?_
              refine T_region ?_
              refine L_y (y_move rfl) rfl ?_
              refine L_y (y_add rfl rfl (i64w (by omega))) rfl ?_
              refine L_y (y_assign rfl) rfl ?_
              refine L_nil ?_
              have S8 := S15.blkc 4 rfl (congrArg bA (idR_4 V k (by omega)))
              refine ⟨k + 1, by omega, ⟨by omega, S8⟩, ?_⟩
              exact (Sub.cons rfl (by first | rfl | exact congrArg (Value.int _) (by omega)) (Sub.cons rfl rfl (Sub.cons rfl rfl (Sub.cons rfl rfl (Sub.nil _)))))
        ·
          obtain rfl : k = 8 := by omega
          refine T_exit ?_
          refine hK13 _ _ ?_
          refine T_seq fun K24 hK24 => ?_
          refine T_region ?_
          refine L_y (y_ldW (size := 32) (vs := bL (digL V)) Try.underlying23 rfl sz23 rfl (S14.blk 4 rfl) ⟨by rw [List.drop_zero, idU_8]; exact List.take_of_length_le (by rw [Array.length_toList, size_bA, length_digL]; omega), by rw [length_bL, length_digL]⟩) rfl ?_
          refine L_o (o_stW S14 0 rfl rfl rfl (by rw [List.size_toArray, length_bL, length_digL]; exact sz23) (by rw [List.size_toArray, length_bL, length_digL]; simp [bA, z32]) (bL_one _) fun w17 S17 => ?_)
          refine L_nil ?_
          refine hK24 _ _ ?_
          refine T_ret ?_
          repeat (first | with_reducible refine up_then ?_ | with_reducible refine up_in ?_)
          refine retc rfl rfl (S17.blk 0 rfl) Try.underlying23 rfl (by rw [List.size_toArray, length_bL, length_digL]; exact sz23) ?_
          exact ⟨_, rfl, S17.like0, by rw [hofl]; rfl⟩
end Go.Proofs.Ytgaklngnfecdaaa.Sha


/-
  The sum of parts, by the code.
-/
namespace Go.Proofs.Ytgaklngnfecdaaa.Sha
open Go.RowKit Zk Zx
set_option linter.unusedVariables false
set_option linter.unusedSimpArgs false

theorem p0_ok (w : World) : p0.ok w := Rs.nil w 1
theorem part_getD {w : World} {ps : List Part} (h : ∀ p ∈ ps, p.ok w) (k : Nat) : (ps.getD k p0).ok w := by
  rw [List.getD_eq_getElem?_getD]
  rcases Nat.lt_or_ge k ps.length with hk | hk
  · rw [List.getElem?_eq_getElem hk]
    exact h _ (List.getElem_mem hk)
  · rw [List.getElem?_eq_none hk]
    exact p0_ok w
def cat (ps : List Part) : List UInt8 := ps.flatMap (·.l)
theorem cat_next (ps : List Part) (k : Nat) (h : k < ps.length) : cat (ps.take (k + 1)) = cat (ps.take k) ++ (ps.getD k p0).l := by
  unfold cat
  rw [List.take_succ_eq_append_getElem h, List.flatMap_append]
  congr 1
  simp [List.getD_eq_getElem?_getD, List.getElem?_eq_getElem h]
theorem cat_le (ps : List Part) (k : Nat) : (cat (ps.take k)).length ≤ (cat ps).length := by
  have : cat ps = cat (ps.take k) ++ cat (ps.drop k) := by
    unfold cat
    rw [← List.flatMap_append, List.take_append_drop]
  rw [this, List.length_append]
  omega


theorem bA_one (l : List UInt8) : ∀ u ∈ (bA l).toList, u.oneCell' = true := bL_one l
theorem length_ofL (l : List UInt8) : (ofL l).length = 32 := length_digL _
set_option maxRecDepth 100000 in
set_option maxHeartbeats 1000000 in
theorem shaof (ps : List Part) (A : Option Addr) (n c : Nat) (w0 : World) (hps : Rs w0 1 A n c (ps.map pv)) (hok : ∀ p ∈ ps, p.ok w0) (hlen : (cat ps).length ≤ 100000) (hpl : ps.length ≤ 9223372036854775807) :
    Calls Try.prog 74 #[.slice A n c] w0 fun e w' => ∃ u, e = .returned u ∧ Like w0 w' ∧ u = .agg (bA (ofL (cat ps))) := by
  have hn : ps.length = n := by have := hps.len; simpa using this
  refine enter1 (env := [(0, .slice A n c)]) [.slice A n c] Try.func74 rfl Try.ntmps74 rfl rfl ?_
  have S0 := St.start w0 noM
  refine T_seq fun K1 hK1 => ?_
  refine T_region ?_
  refine L_o (o_alloc zz23 S0 rfl fun b1 w1 hb1 S1 => ?_)
  refine L_nil ?_
  refine hK1 _ _ ?_
  refine T_seq fun K2 hK2 => ?_
  refine T_region ?_
  refine L_o (o_call Try.func116 rfl rfl (new _) rfl rfl ?_)
  rintro e2 w2 ⟨v2, rfl, l2, b2, rfl, hb2, hB2⟩
  refine ⟨_, rfl, ?_⟩
  have S2 := S1.adoptB l2 hB2 hb2
  refine L_y (y_assign rfl) rfl ?_
  refine L_nil ?_
  refine hK2 _ _ ?_
  refine T_seq fun K3 hK3 => ?_
  refine T_seq fun K4 hK4 => ?_
  refine T_region ?_
  refine L_y (y_move rfl) rfl ?_
  refine L_y (y_len Try.underlying177 rfl) rfl ?_
  refine L_y (y_move rfl) rfl ?_
  refine L_nil ?_
  refine hK4 _ _ ?_
  refine T_block ?_
  refine T_loop2 [(2, _), (3, _), (7, _), (8, _)] (fun (k : Nat) (cs : Array Value) => [(9, .int .i64 (k : Int))]) (fun (k : Nat) (cs : Array Value) => ps.length - k) (fun (k : Nat) (cs : Array Value) (w : World) => k ≤ ps.length ∧ HS (cat (ps.take k)) cs ∧ Zx.St w0 noM [blk b1 23 (bA z32), blk b2 220 cs] w) 0 (hashA 0 start0 (List.replicate 64 0)) (Sub.cons rfl (by first | rfl | exact congrArg (Value.int _) (by omega)) (Sub.nil _)) (Sub.cons rfl rfl (Sub.cons rfl rfl (Sub.cons rfl rfl (Sub.cons rfl rfl (Sub.nil _))))) ?_ ?_
  ·
    exact ⟨by omega, HS_nil, S2⟩
  ·
    intro k cs w3 hrel
    obtain ⟨hk, hs, S3⟩ := hrel
    refine T_seq fun K5 hK5 => ?_
    refine T_region ?_
    refine L_y (y_lss rfl rfl) rfl ?_
    refine L_nil ?_
    refine hK5 _ _ ?_
    refine T_seq fun K6 hK6 => ?_
    refine T_cond rfl (fun h10 => ?_) (fun h10 => ?_)
    ·
      refine T_skip ?_
      refine hK6 _ _ ?_
      refine T_seq fun K7 hK7 => ?_
      refine T_block ?_
      refine T_seq fun K8 hK8 => ?_
      refine T_region ?_
      refine L_y (y_idx Try.underlying177 sz27 rfl rfl (by first | exact S3.rd hps) inferInstance (by omega)) rfl ?_
      refine L_y (y_ldg p0 Try.underlying27 rfl rfl (by first | exact S3.rd hps) (by omega)) rfl ?_
      refine L_y (y_assign rfl) rfl ?_
      refine L_nil ?_
      refine hK8 _ _ ?_
      refine T_region ?_
      refine L_y (y_move rfl) rfl ?_
      refine L_y (y_move rfl) rfl ?_
      have hz1 := S1.size
      have hq := part_getD hok k
      have hlt : k < ps.length := by omega
      have hcn := cat_next ps k hlt
      have hcl := cat_le ps (k + 1)
      have hql := hq.lenb
      have hcx : (cat (ps.take k)).length + (ps.getD k p0).n ≤ 1000000 := by rw [hcn, List.length_append, hql] at hcl; omega
      refine L_o (o_call Try.func117 rfl rfl (write _ _ (ps.getD k p0).l _ _ _ _ _ (S3.blk 1 rfl) hs (S3.rd hq) (fun ad h0 had => by obtain ⟨ad', had', hlt', _⟩ := hq.rd.2 h0; rw [had] at had'; cases had'; omega) hcx) rfl rfl ?_)
      rintro e4 w4 ⟨u4, rfl, hgb, cs', hB', hs'⟩
      refine ⟨_, rfl, ?_⟩
      have S4 := S3.wrote (r' := blk _ _ _) 1 rfl (fun i => Iff.rfl) (fun i h => h) hgb hB'
      rw [← hcn] at hs'
      refine L_nil ?_
      refine hK7 _ _ ?_
      refine T_region ?_
      refine L_y (y_add rfl rfl (i64w (by omega))) rfl ?_
      refine L_y (y_move rfl) rfl ?_
      refine L_nil ?_
      refine ⟨k + 1, _, by omega, ⟨by omega, hs', S4⟩, ?_⟩
      exact (Sub.cons rfl (by first | rfl | exact congrArg (Value.int _) (by omega)) (Sub.cons rfl rfl (Sub.cons rfl rfl (Sub.cons rfl rfl (Sub.cons rfl rfl (Sub.nil _))))))
    ·
      have hke : ps.take k = ps := List.take_of_length_le (by omega)
      rw [hke] at hs
      refine T_exit ?_
      refine hK3 _ _ ?_
      refine T_seq fun K9 hK9 => ?_
      refine T_region ?_
      refine L_y (y_move rfl) rfl ?_
      refine L_o (o_call Try.func118 rfl rfl (sum _ (cat ps) cs _ (S3.blk 1 rfl) hs (by omega)) rfl rfl ?_)
      rintro e5 w5 ⟨v5, rfl, l5, rfl⟩
      refine ⟨_, rfl, ?_⟩
      have S5 := S3.like l5
      refine L_o (o_stW S5 0 rfl rfl rfl (by rw [size_bA, length_ofL]; exact sz23) (by rw [size_bA, length_ofL]; simp [Value.cells, bA, z32]) (bA_one _) fun w6 S6 => ?_)
      refine L_nil ?_
      refine hK9 _ _ ?_
      refine T_ret ?_
      repeat (first | with_reducible refine up_then ?_ | with_reducible refine up_in ?_)
      refine retc rfl rfl (S6.blk 0 rfl) Try.underlying23 rfl (by rw [size_bA, length_ofL]; exact sz23) ?_
      exact ⟨_, rfl, S6.like0, rfl⟩
end Go.Proofs.Ytgaklngnfecdaaa.Sha


/-
  An index laid out.
-/
namespace Go.Proofs.Ytgaklngnfecdaaa.Idx
open Go.RowKit Zk Zx
open Oid (idf idf_len cmpL)
set_option linter.unusedVariables false
set_option linter.unusedSimpArgs false

open Oct (wt wt_lt Laid)
/-- An index' bytes ahead of their sum. -/
def bodyB (l : List Row) (of : Oid.Id) : List UInt8 :=
  [73, 78, 68, 88] ++ Oct.tl 1 4 ++ (List.range 256).flatMap (fun c => Oct.tl (cl l (c + 1)) 4) ++ l.flatMap (fun x => x.id.l) ++ l.flatMap (fun x => Oct.tl x.sm.toNat 4) ++ l.flatMap (fun x => Oct.tl x.at_.toNat 4) ++ of.l
def layB (l : List Row) (of : Oid.Id) : List UInt8 := bodyB l of ++ Sha.ofL (bodyB l of)
theorem wt_fresh {w w' : World} {b : Nat} (h : w.heap.size ≤ b) (hw : (wt b none 0 0 []).holds w') : ∀ i, (wt b none 0 0 []).dom i → w.heap.size ≤ i ∧ i < w'.heap.size := fun i hi => by
  refine ⟨?_, wt_lt hw i hi⟩
  rcases hi with hi | hi
  · have hi' : i = b := hi
    omega
  · cases hi
theorem i_u32 {x : Int} (h : 0 ≤ x) (h2 : x ≤ 4294967295) : IntKind.u32.wrap x = ((x.toNat : Nat) : Int) := by
  rw [IntKind.wrap_u32]
  omega
theorem take1 {α β : Type} {l : List α} {k : Nat} {x : α} (f : α → List β) (hx : l[k]? = some x) : (l.take (k + 1)).flatMap f = (l.take k).flatMap f ++ f x := by
  rw [List.take_add_one, hx, List.flatMap_append]
  simp
theorem fan_len (l : List Row) (k : Nat) : ((List.range k).flatMap (fun c => Oct.tl (cl l (c + 1)) 4)).length = k * 4 := by
  induction k with
  | zero => rfl
  | succ k ih => rw [List.range_succ, List.flatMap_append, List.length_append, ih]; simp [Oct.length_tl]; omega
theorem ids_blen (l : List Row) : (l.flatMap (fun x => x.id.l)).length = l.length * 32 := by
  induction l with
  | nil => rfl
  | cons x l ih => rw [List.flatMap_cons, List.length_append, ih, x.id.h, List.length_cons]; omega
theorem tls_blen (f : Row → Nat) (l : List Row) : (l.flatMap (fun x => Oct.tl (f x) 4)).length = l.length * 4 := by
  induction l with
  | nil => rfl
  | cons x l ih => rw [List.flatMap_cons, List.length_append, ih, Oct.length_tl, List.length_cons]; omega
theorem fan_cell (l : List Row) (k : Nat) (h : k < 256) : (fanF l).toArray[k]? = some (.int .i64 (cl l (k + 1) : Int)) := by
  rw [List.getElem?_toArray]
  unfold fanF fanA
  rw [List.getElem?_append_left (by simpa using h)]
  simp [h]
theorem i_u32n (x : Nat) (h : x ≤ 4294967295) : IntKind.u32.wrap (x : Int) = (x : Int) := by
  rw [IntKind.wrap_u32]
  omega
def headB : List UInt8 := [73, 78, 68, 88] ++ Oct.tl 1 4
def fanB (l : List Row) (k : Nat) : List UInt8 := (List.range k).flatMap (fun c => Oct.tl (cl l (c + 1)) 4)
def idsB (l : List Row) : List UInt8 := l.flatMap (fun x => x.id.l)
def smsB (l : List Row) : List UInt8 := l.flatMap (fun x => Oct.tl x.sm.toNat 4)
def atsB (l : List Row) : List UInt8 := l.flatMap (fun x => Oct.tl x.at_.toNat 4)
theorem bodyB_eq (l : List Row) (of : Oid.Id) : bodyB l of = headB ++ fanB l 256 ++ idsB l ++ smsB l ++ atsB l ++ of.l := rfl
theorem fan_step (l : List Row) (k : Nat) : fanB l k ++ Oct.tl (cl l (k + 1)) 4 = fanB l (k + 1) := by unfold fanB; rw [List.range_succ, List.flatMap_append]; simp
theorem ids_step {l : List Row} {k : Nat} {x : Row} (hx : l[k]? = some x) : idsB (l.take k) ++ x.id.l = idsB (l.take (k + 1)) := (take1 (fun x : Row => x.id.l) hx).symm
theorem sms_step {l : List Row} {k : Nat} {x : Row} (hx : l[k]? = some x) : smsB (l.take k) ++ Oct.tl x.sm.toNat 4 = smsB (l.take (k + 1)) := (take1 (fun x : Row => Oct.tl x.sm.toNat 4) hx).symm
theorem ats_step {l : List Row} {k : Nat} {x : Row} (hx : l[k]? = some x) : atsB (l.take k) ++ Oct.tl x.at_.toNat 4 = atsB (l.take (k + 1)) := (take1 (fun x : Row => Oct.tl x.at_.toNat 4) hx).symm
theorem cat1 (A : Option Addr) (n c : Nat) (l : List UInt8) : Sha.cat [⟨A, n, c, l⟩] = l := by simp [Sha.cat]
theorem headB_len : headB.length = 8 := by simp [headB, Oct.length_tl]
theorem fanB_len (l : List Row) (k : Nat) : (fanB l k).length = k * 4 := fan_len l k
theorem idsB_len (l : List Row) : (idsB l).length = l.length * 32 := ids_blen l
theorem smsB_len (l : List Row) : (smsB l).length = l.length * 4 := tls_blen _ l
theorem atsB_len (l : List Row) : (atsB l).length = l.length * 4 := tls_blen _ l
theorem bodyB_len (l : List Row) (of : Oid.Id) : (bodyB l of).length = 1064 + 40 * l.length := by
  rw [bodyB_eq]
  simp only [List.length_append, headB_len, fanB_len, idsB_len, smsB_len, atsB_len, of.h]
  omega
theorem rs_rowid {w : World} {b : Nat} {x : Row} (h : Blk w b 119 (rowf x).toArray) : Rs w 1 (some ⟨b, 0, none⟩) 32 32 (bL x.id.l) := by
  have := Rs.of_blk (o := 0) (n := 32) h (by rw [rowf_sz]; omega) (by omega)
  rwa [(row_id x).1] at this
theorem rs_id {w : World} {b t : Nat} {x : Oid.Id} (h : Blk w b t (idf x).toArray) : Rs w 1 (some ⟨b, 0, none⟩) 32 32 (bL x.l) := by
  have := Rs.of_blk (o := 0) (n := 32) h (by rw [List.size_toArray, idf_len]; omega) (by omega)
  rwa [List.drop_zero, List.toList_toArray, List.take_of_length_le (by rw [idf_len]; omega)] at this
theorem rs_dig {w : World} {b t : Nat} {l : List UInt8} (h : Blk w b t (bA (Sha.ofL l))) : Rs w 1 (some ⟨b, 0, none⟩) 32 32 (bL (Sha.ofL l)) := rs_id (x := ⟨Sha.ofL l, Sha.length_ofL l⟩) h
theorem row32n (x : Row) (h : 0 ≤ x.sm) : (rowf x).toArray[32]? = some (.int .u32 ((x.sm.toNat : Nat) : Int)) := by
  rw [row32, Int.toNat_of_nonneg h]
/-- Rows as Make and Open keep them. -/
structure RowOk (x : Row) : Prop where
  s0 : 0 ≤ x.sm
  s1 : x.sm ≤ 4294967295
  a0 : 0 ≤ x.at_
  a1 : x.at_ ≤ 1048576


set_option maxRecDepth 100000 in
theorem lay (A : Option Addr) (n c : Nat) (l : List Row) (of : Oid.Id) (w0 : World) (hl : Rs w0 34 A n c (l.flatMap rowf)) (hs : FS l) (hok : ∀ x ∈ l, RowOk x) (h600 : l.length ≤ 600) :
    Calls Try.prog 65 #[.slice A n c, .agg (idf of).toArray] w0 fun e w' => ∃ u, e = .returned u ∧ Like w0 w' ∧ ∃ A' m c', u = .slice A' m c' ∧ w'.ownsRow w0.heap.size 5 1 (.slice A' m c') m (bL (layB l of)) := by
  refine enter1 (env := [(0, .slice A n c), (1, .agg (idf of).toArray)]) [.slice A n c, .agg (idf of).toArray] Try.func65 rfl Try.ntmps65 rfl rfl ?_
  have hn := rows_len hl; have hcap := hl.cap; have hmax := hl.max
  have S0 := St.start w0 noM
  refine T_seq fun K1 hK1 => ?_
  refine T_region ?_
  refine L_o (o_box rfl S0 rfl fun b1 w1 hb1 S1 => ?_)
  refine L_y (y_assign rfl) rfl ?_
  refine L_nil ?_
  refine hK1 _ _ ?_
  refine T_seq fun K2 hK2 => ?_
  refine T_region ?_
  refine L_o (o_call Try.func109 rfl rfl (Oct.wnew w1) rfl rfl ?_)
  rintro e2 w2 ⟨v2, rfl, l2, g, rfl, hb2, hh2⟩
  refine ⟨_, rfl, ?_⟩
  have S2 := S1.new l2 _ hh2 (wt_fresh hb2 hh2)
  refine L_y (y_assign rfl) rfl ?_
  refine L_nil ?_
  refine hK2 _ _ ?_
  refine T_seq fun K3 hK3 => ?_
  refine T_region ?_
  refine L_y (y_move rfl) rfl ?_
  refine L_o (o_bsl [_, _, _, _] te27 zz5 S2 rfl rfl rfl rfl rfl rfl rfl rfl fun b3 w3 S3 => ?_)
  refine L_o (o_bconst S3 2 rfl Try.underlying27 Try.underlying5 rfl (by omega) rfl fun w4 S4 => ?_)
  refine L_o (o_call Try.func110 rfl rfl (Oct.wraw g _ _ _ _ _ _ _ [73, 78, 68, 88] w4 (S4.get 1 rfl) (S4.fix 2 rfl) (by simp)) rfl rfl ?_)
  rintro e5 w5 ⟨v5, rfl, ⟨A5, n5, c5, T5⟩⟩
  refine ⟨_, rfl, ?_⟩
  have S5 := S4.turn 1 rfl T5
  refine L_nil ?_
  refine hK3 _ _ ?_
  refine T_seq fun K4 hK4 => ?_
  refine T_region ?_
  refine L_y (y_move rfl) rfl ?_
  refine L_o (o_call Try.func111 rfl rfl (Oct.wu32 g _ _ _ _ 1 w5 (S5.get 1 rfl) (by omega) (by simp)) rfl rfl ?_)
  rintro e6 w6 ⟨v6, rfl, ⟨A6, n6, c6, T6⟩⟩
  refine ⟨_, rfl, ?_⟩
  have S6 := S5.turn 1 rfl T6
  refine L_nil ?_
  refine hK4 _ _ ?_
  refine T_seq fun K5 hK5 => ?_
  refine T_seq fun K6 hK6 => ?_
  refine T_region ?_
  refine L_y (y_move rfl) rfl ?_
  refine L_o (o_call Try.func76 rfl rfl (fanC A n c l w6 (S6.rd hl) hs) rfl rfl ?_)
  rintro e7 w7 ⟨v7, rfl, l7, rfl⟩
  refine ⟨_, rfl, ?_⟩
  have S7 := S6.like l7
  refine L_y (y_move rfl) rfl ?_
  refine L_nil ?_
  refine hK6 _ _ ?_
  refine T_block ?_
  refine T_loop4 [(0, _), (3, _), (5, _), (23, _)] (fun (k : Nat) (A1 : Option Addr) (n1 : Nat) (c1 : Nat) => [(24, .int .i64 (k : Int))]) (fun (k : Nat) (A1 : Option Addr) (n1 : Nat) (c1 : Nat) => 256 - k) (fun (k : Nat) (A1 : Option Addr) (n1 : Nat) (c1 : Nat) (w : World) => k ≤ 256 ∧ Zx.St w0 noM [blk b1 23 (idf of).toArray, wt g A1 n1 c1 (headB ++ fanB l k)] w) 0 A6 n6 c6 (Sub.cons rfl (by first | rfl | exact congrArg (Value.int _) (by omega)) (Sub.nil _)) (Sub.cons rfl rfl (Sub.cons rfl rfl (Sub.cons rfl rfl (Sub.cons rfl rfl (Sub.nil _))))) ?_ ?_
  ·
    have S90 := S7.sel [0, 1] (by decide)
    have S91 : Zx.St w0 noM [blk b1 23 (idf of).toArray, wt g A6 n6 c6 (headB)] w7 := S90
    rw [← List.append_nil (headB)] at S91
    exact ⟨by omega, S91⟩
  ·
    intro k A1 n1 c1 w8 hrel
    obtain ⟨hk, S8⟩ := hrel
    refine T_seq fun K7 hK7 => ?_
    refine T_region ?_
    refine L_y (y_lss rfl rfl) rfl ?_
    refine L_nil ?_
    refine hK7 _ _ ?_
    refine T_seq fun K8 hK8 => ?_
    refine T_cond rfl (fun h25 => ?_) (fun h25 => ?_)
    ·
      refine T_skip ?_
      refine hK8 _ _ ?_
      refine T_seq fun K9 hK9 => ?_
      refine T_block ?_
      refine T_seq fun K10 hK10 => ?_
      refine T_region ?_
      refine L_y (y_idxV Try.underlying95 Try.underlying3 rfl sz3 rfl rfl inferInstance (by omega) (fan_cell l k (by omega))) rfl ?_
      refine L_y (y_assign rfl) rfl ?_
      refine L_nil ?_
      refine hK10 _ _ ?_
      refine T_region ?_
      refine L_y (y_move rfl) rfl ?_
      refine L_y (y_move rfl) rfl ?_
      refine L_y (y_conv is3 Try.underlying60 rfl (i_u32n _ (by have h9 := cl_le l (k + 1); omega))) rfl ?_
      refine L_o (o_call Try.func111 rfl rfl (Oct.wu32 g _ _ _ _ (cl l (k + 1)) w8 (S8.get 1 rfl) (by have h9 := cl_le l (k + 1); omega) (by simp only [List.length_append, headB_len, fanB_len, idsB_len, smsB_len, atsB_len, List.length_take, List.length_cons, List.length_nil, Oct.length_tl]; omega)) rfl rfl ?_)
      rintro e9 w9 ⟨v9, rfl, ⟨A9, n9, c9, T9⟩⟩
      refine ⟨_, rfl, ?_⟩
      have S9 := S8.turn 1 rfl T9
      refine L_nil ?_
      refine hK9 _ _ ?_
      refine T_region ?_
      refine L_y (y_add rfl rfl (i64w (by omega))) rfl ?_
      refine L_y (y_move rfl) rfl ?_
      refine L_nil ?_
      have S91 := S9.sel [0, 1] (by decide)
      have S92 : Zx.St w0 noM [blk b1 23 (idf of).toArray, wt g A9 n9 c9 ((headB ++ _) ++ _)] w9 := S91
      rw [List.append_assoc (headB), fan_step] at S92
      refine ⟨k + 1, _, _, _, by omega, ⟨by omega, S92⟩, ?_⟩
      exact (Sub.cons rfl (by first | rfl | exact congrArg (Value.int _) (by omega)) (Sub.cons rfl rfl (Sub.cons rfl rfl (Sub.cons rfl rfl (Sub.cons rfl rfl (Sub.nil _))))))
    ·
      obtain rfl : k = 256 := by omega
      refine T_exit ?_
      refine hK5 _ _ ?_
      refine T_seq fun K11 hK11 => ?_
      refine T_seq fun K12 hK12 => ?_
      refine T_region ?_
      refine L_y (y_move rfl) rfl ?_
      refine L_y (y_len Try.underlying94 rfl) rfl ?_
      refine L_y (y_move rfl) rfl ?_
      refine L_nil ?_
      refine hK12 _ _ ?_
      refine T_block ?_
      refine T_loop4 [(0, _), (3, _), (5, _), (32, _), (33, _)] (fun (k : Nat) (A1 : Option Addr) (n1 : Nat) (c1 : Nat) => [(34, .int .i64 (k : Int))]) (fun (k : Nat) (A1 : Option Addr) (n1 : Nat) (c1 : Nat) => l.length - k) (fun (k : Nat) (A1 : Option Addr) (n1 : Nat) (c1 : Nat) (w : World) => k ≤ l.length ∧ Zx.St w0 noM [blk b1 23 (idf of).toArray, wt g A1 n1 c1 (headB ++ fanB l 256 ++ idsB (l.take k))] w) 0 A1 n1 c1 (Sub.cons rfl (by first | rfl | exact congrArg (Value.int _) (by omega)) (Sub.nil _)) (Sub.cons rfl rfl (Sub.cons rfl rfl (Sub.cons rfl rfl (Sub.cons rfl rfl (Sub.cons rfl rfl (Sub.nil _)))))) ?_ ?_
      ·
        have S90 := S8.sel [0, 1] (by decide)
        have S91 : Zx.St w0 noM [blk b1 23 (idf of).toArray, wt g A1 n1 c1 (headB ++ fanB l 256)] w8 := S90
        rw [← List.append_nil (headB ++ fanB l 256)] at S91
        exact ⟨by omega, S91⟩
      ·
        intro k A1 n1 c1 w10 hrel
        obtain ⟨hk, S10⟩ := hrel
        refine T_seq fun K13 hK13 => ?_
        refine T_region ?_
        refine L_y (y_lss rfl rfl) rfl ?_
        refine L_nil ?_
        refine hK13 _ _ ?_
        refine T_seq fun K14 hK14 => ?_
        refine T_cond rfl (fun h35 => ?_) (fun h35 => ?_)
        ·
          obtain ⟨x, hx⟩ : ∃ x, l[k]? = some x := ⟨_, List.getElem?_eq_getElem (by omega)⟩
          have hr := hok x (List.mem_of_getElem? hx)
          refine T_skip ?_
          refine hK14 _ _ ?_
          refine T_seq fun K15 hK15 => ?_
          refine T_block ?_
          refine T_seq fun K16 hK16 => ?_
          refine T_region ?_
          refine L_y (y_idx Try.underlying94 sz119 rfl rfl (by first | exact S10.rd hl) inferInstance (by omega)) rfl ?_
          refine L_y (y_ldp (f := rowf) rowf_len Try.underlying119 rfl sz119 rfl (S10.rd hl) (by omega) hx) rfl ?_
          refine L_o (o_alloc zz119 S10 rfl fun b11 w11 hb11 S11 => ?_)
          refine L_o (o_stW S11 2 rfl rfl rfl (by rw [rowf_sz]; exact sz119) (by rw [rowf_sz]; rfl) (fun u hu => rowf_one _ u (by rw [List.toList_toArray] at hu; exact hu)) fun w12 S12 => ?_)
          refine L_nil ?_
          refine hK16 _ _ ?_
          refine T_region ?_
          refine L_y (y_move rfl) rfl ?_
          refine L_y (y_fieldA 0 Try.underlying119 rfl sz23 rfl rfl rfl) rfl ?_
          refine L_y (y_aslice Try.underlying23 sz5 rfl) rfl ?_
          refine L_o (o_call Try.func110 rfl rfl (Oct.wraw g _ _ _ _ _ _ _ x.id.l w12 (S12.get 1 rfl) (rs_rowid (S12.blk 2 rfl)) (by simp only [List.length_append, headB_len, fanB_len, idsB_len, smsB_len, atsB_len, List.length_take, List.length_cons, List.length_nil, Oct.length_tl]; omega)) rfl rfl ?_)
          rintro e13 w13 ⟨v13, rfl, ⟨A13, n13, c13, T13⟩⟩
          refine ⟨_, rfl, ?_⟩
          have S13 := S12.turn 1 rfl T13
          refine L_nil ?_
          refine hK15 _ _ ?_
          refine T_region ?_
          refine L_y (y_add rfl rfl (i64w (by omega))) rfl ?_
          refine L_y (y_move rfl) rfl ?_
          refine L_nil ?_
          have S91 := S13.sel [0, 1] (by decide)
          have S92 : Zx.St w0 noM [blk b1 23 (idf of).toArray, wt g A13 n13 c13 ((headB ++ fanB l 256 ++ _) ++ _)] w13 := S91
          rw [List.append_assoc (headB ++ fanB l 256), ids_step hx] at S92
          refine ⟨k + 1, _, _, _, by omega, ⟨by omega, S92⟩, ?_⟩
          exact (Sub.cons rfl (by first | rfl | exact congrArg (Value.int _) (by omega)) (Sub.cons rfl rfl (Sub.cons rfl rfl (Sub.cons rfl rfl (Sub.cons rfl rfl (Sub.cons rfl rfl (Sub.nil _)))))))
        ·
          have hke : k = l.length := by omega
          rw [hke, List.take_length] at S10
          refine T_exit ?_
          refine hK11 _ _ ?_
          refine T_seq fun K17 hK17 => ?_
          refine T_seq fun K18 hK18 => ?_
          refine T_region ?_
          refine L_y (y_move rfl) rfl ?_
          refine L_y (y_len Try.underlying94 rfl) rfl ?_
          refine L_y (y_move rfl) rfl ?_
          refine L_nil ?_
          refine hK18 _ _ ?_
          refine T_block ?_
          refine T_loop4 [(0, _), (3, _), (5, _), (43, _), (44, _)] (fun (k : Nat) (A1 : Option Addr) (n1 : Nat) (c1 : Nat) => [(45, .int .i64 (k : Int))]) (fun (k : Nat) (A1 : Option Addr) (n1 : Nat) (c1 : Nat) => l.length - k) (fun (k : Nat) (A1 : Option Addr) (n1 : Nat) (c1 : Nat) (w : World) => k ≤ l.length ∧ Zx.St w0 noM [blk b1 23 (idf of).toArray, wt g A1 n1 c1 (headB ++ fanB l 256 ++ idsB l ++ smsB (l.take k))] w) 0 A1 n1 c1 (Sub.cons rfl (by first | rfl | exact congrArg (Value.int _) (by omega)) (Sub.nil _)) (Sub.cons rfl rfl (Sub.cons rfl rfl (Sub.cons rfl rfl (Sub.cons rfl rfl (Sub.cons rfl rfl (Sub.nil _)))))) ?_ ?_
          ·
            have S90 := S10.sel [0, 1] (by decide)
            have S91 : Zx.St w0 noM [blk b1 23 (idf of).toArray, wt g A1 n1 c1 (headB ++ fanB l 256 ++ idsB l)] w10 := S90
            rw [← List.append_nil (headB ++ fanB l 256 ++ idsB l)] at S91
            exact ⟨by omega, S91⟩
          ·
            intro k A1 n1 c1 w14 hrel
            obtain ⟨hk, S14⟩ := hrel
            refine T_seq fun K19 hK19 => ?_
            refine T_region ?_
            refine L_y (y_lss rfl rfl) rfl ?_
            refine L_nil ?_
            refine hK19 _ _ ?_
            refine T_seq fun K20 hK20 => ?_
            refine T_cond rfl (fun h46 => ?_) (fun h46 => ?_)
            ·
              obtain ⟨x, hx⟩ : ∃ x, l[k]? = some x := ⟨_, List.getElem?_eq_getElem (by omega)⟩
              have hr := hok x (List.mem_of_getElem? hx)
              refine T_skip ?_
              refine hK20 _ _ ?_
              refine T_seq fun K21 hK21 => ?_
              refine T_block ?_
              refine T_seq fun K22 hK22 => ?_
              refine T_region ?_
              refine L_y (y_idx Try.underlying94 sz119 rfl rfl (by first | exact S14.rd hl) inferInstance (by omega)) rfl ?_
              refine L_y (y_ldp (f := rowf) rowf_len Try.underlying119 rfl sz119 rfl (S14.rd hl) (by omega) hx) rfl ?_
              refine L_o (o_alloc zz119 S14 rfl fun b15 w15 hb15 S15 => ?_)
              refine L_o (o_stW S15 2 rfl rfl rfl (by rw [rowf_sz]; exact sz119) (by rw [rowf_sz]; rfl) (fun u hu => rowf_one _ u (by rw [List.toList_toArray] at hu; exact hu)) fun w16 S16 => ?_)
              refine L_nil ?_
              refine hK22 _ _ ?_
              refine T_region ?_
              refine L_y (y_move rfl) rfl ?_
              refine L_y (y_fieldA 32 Try.underlying119 rfl sz60 rfl rfl rfl) rfl ?_
              refine L_y (y_ldc Try.underlying60 rfl rfl (((S16.blk 2 rfl).cell _).trans (row32n x hr.s0))) rfl ?_
              refine L_o (o_call Try.func111 rfl rfl (Oct.wu32 g _ _ _ _ x.sm.toNat w16 (S16.get 1 rfl) (by have h9 := hr.s1; omega) (by simp only [List.length_append, headB_len, fanB_len, idsB_len, smsB_len, atsB_len, List.length_take, List.length_cons, List.length_nil, Oct.length_tl]; omega)) rfl rfl ?_)
              rintro e17 w17 ⟨v17, rfl, ⟨A17, n17, c17, T17⟩⟩
              refine ⟨_, rfl, ?_⟩
              have S17 := S16.turn 1 rfl T17
              refine L_nil ?_
              refine hK21 _ _ ?_
              refine T_region ?_
              refine L_y (y_add rfl rfl (i64w (by omega))) rfl ?_
              refine L_y (y_move rfl) rfl ?_
              refine L_nil ?_
              have S91 := S17.sel [0, 1] (by decide)
              have S92 : Zx.St w0 noM [blk b1 23 (idf of).toArray, wt g A17 n17 c17 ((headB ++ fanB l 256 ++ idsB l ++ _) ++ _)] w17 := S91
              rw [List.append_assoc (headB ++ fanB l 256 ++ idsB l), sms_step hx] at S92
              refine ⟨k + 1, _, _, _, by omega, ⟨by omega, S92⟩, ?_⟩
              exact (Sub.cons rfl (by first | rfl | exact congrArg (Value.int _) (by omega)) (Sub.cons rfl rfl (Sub.cons rfl rfl (Sub.cons rfl rfl (Sub.cons rfl rfl (Sub.cons rfl rfl (Sub.nil _)))))))
            ·
              have hke : k = l.length := by omega
              rw [hke, List.take_length] at S14
              refine T_exit ?_
              refine hK17 _ _ ?_
              refine T_seq fun K23 hK23 => ?_
              refine T_seq fun K24 hK24 => ?_
              refine T_region ?_
              refine L_y (y_move rfl) rfl ?_
              refine L_y (y_len Try.underlying94 rfl) rfl ?_
              refine L_y (y_move rfl) rfl ?_
              refine L_nil ?_
              refine hK24 _ _ ?_
              refine T_block ?_
              refine T_loop4 [(3, _), (5, _), (54, _), (55, _)] (fun (k : Nat) (A1 : Option Addr) (n1 : Nat) (c1 : Nat) => [(56, .int .i64 (k : Int))]) (fun (k : Nat) (A1 : Option Addr) (n1 : Nat) (c1 : Nat) => l.length - k) (fun (k : Nat) (A1 : Option Addr) (n1 : Nat) (c1 : Nat) (w : World) => k ≤ l.length ∧ Zx.St w0 noM [blk b1 23 (idf of).toArray, wt g A1 n1 c1 (headB ++ fanB l 256 ++ idsB l ++ smsB l ++ atsB (l.take k))] w) 0 A1 n1 c1 (Sub.cons rfl (by first | rfl | exact congrArg (Value.int _) (by omega)) (Sub.nil _)) (Sub.cons rfl rfl (Sub.cons rfl rfl (Sub.cons rfl rfl (Sub.cons rfl rfl (Sub.nil _))))) ?_ ?_
              ·
                have S90 := S14.sel [0, 1] (by decide)
                have S91 : Zx.St w0 noM [blk b1 23 (idf of).toArray, wt g A1 n1 c1 (headB ++ fanB l 256 ++ idsB l ++ smsB l)] w14 := S90
                rw [← List.append_nil (headB ++ fanB l 256 ++ idsB l ++ smsB l)] at S91
                exact ⟨by omega, S91⟩
              ·
                intro k A1 n1 c1 w18 hrel
                obtain ⟨hk, S18⟩ := hrel
                refine T_seq fun K25 hK25 => ?_
                refine T_region ?_
                refine L_y (y_lss rfl rfl) rfl ?_
                refine L_nil ?_
                refine hK25 _ _ ?_
                refine T_seq fun K26 hK26 => ?_
                refine T_cond rfl (fun h57 => ?_) (fun h57 => ?_)
                ·
                  obtain ⟨x, hx⟩ : ∃ x, l[k]? = some x := ⟨_, List.getElem?_eq_getElem (by omega)⟩
                  have hr := hok x (List.mem_of_getElem? hx)
                  refine T_skip ?_
                  refine hK26 _ _ ?_
                  refine T_seq fun K27 hK27 => ?_
                  refine T_block ?_
                  refine T_seq fun K28 hK28 => ?_
                  refine T_region ?_
                  refine L_y (y_idx Try.underlying94 sz119 rfl rfl (by first | exact S18.rd hl) inferInstance (by omega)) rfl ?_
                  refine L_y (y_ldp (f := rowf) rowf_len Try.underlying119 rfl sz119 rfl (S18.rd hl) (by omega) hx) rfl ?_
                  refine L_o (o_alloc zz119 S18 rfl fun b19 w19 hb19 S19 => ?_)
                  refine L_o (o_stW S19 2 rfl rfl rfl (by rw [rowf_sz]; exact sz119) (by rw [rowf_sz]; rfl) (fun u hu => rowf_one _ u (by rw [List.toList_toArray] at hu; exact hu)) fun w20 S20 => ?_)
                  refine L_nil ?_
                  refine hK28 _ _ ?_
                  refine T_region ?_
                  refine L_y (y_move rfl) rfl ?_
                  refine L_y (y_fieldA 33 Try.underlying119 rfl sz3 rfl rfl rfl) rfl ?_
                  refine L_y (y_ldc Try.underlying3 rfl rfl (((S20.blk 2 rfl).cell _).trans (row33 x))) rfl ?_
                  refine L_y (y_conv is3 Try.underlying60 rfl (i_u32 hr.a0 (by have h9 := hr.a1; omega))) rfl ?_
                  refine L_o (o_call Try.func111 rfl rfl (Oct.wu32 g _ _ _ _ x.at_.toNat w20 (S20.get 1 rfl) (by have h9 := hr.a1; omega) (by simp only [List.length_append, headB_len, fanB_len, idsB_len, smsB_len, atsB_len, List.length_take, List.length_cons, List.length_nil, Oct.length_tl]; omega)) rfl rfl ?_)
                  rintro e21 w21 ⟨v21, rfl, ⟨A21, n21, c21, T21⟩⟩
                  refine ⟨_, rfl, ?_⟩
                  have S21 := S20.turn 1 rfl T21
                  refine L_nil ?_
                  refine hK27 _ _ ?_
                  refine T_region ?_
                  refine L_y (y_add rfl rfl (i64w (by omega))) rfl ?_
                  refine L_y (y_move rfl) rfl ?_
                  refine L_nil ?_
                  have S91 := S21.sel [0, 1] (by decide)
                  have S92 : Zx.St w0 noM [blk b1 23 (idf of).toArray, wt g A21 n21 c21 ((headB ++ fanB l 256 ++ idsB l ++ smsB l ++ _) ++ _)] w21 := S91
                  rw [List.append_assoc (headB ++ fanB l 256 ++ idsB l ++ smsB l), ats_step hx] at S92
                  refine ⟨k + 1, _, _, _, by omega, ⟨by omega, S92⟩, ?_⟩
                  exact (Sub.cons rfl (by first | rfl | exact congrArg (Value.int _) (by omega)) (Sub.cons rfl rfl (Sub.cons rfl rfl (Sub.cons rfl rfl (Sub.cons rfl rfl (Sub.nil _))))))
                ·
                  have hke : k = l.length := by omega
                  rw [hke, List.take_length] at S18
                  refine T_exit ?_
                  refine hK23 _ _ ?_
                  refine T_seq fun K29 hK29 => ?_
                  refine T_region ?_
                  refine L_y (y_move rfl) rfl ?_
                  refine L_y (y_aslice Try.underlying23 sz5 rfl) rfl ?_
                  refine L_o (o_call Try.func110 rfl rfl (Oct.wraw g _ _ _ _ _ _ _ of.l w18 (S18.get 1 rfl) (rs_id (S18.blk 0 rfl)) (by have h9 := of.h; simp only [List.length_append, headB_len, fanB_len, idsB_len, smsB_len, atsB_len]; omega)) rfl rfl ?_)
                  rintro e22 w22 ⟨v22, rfl, ⟨A22, n22, c22, T22⟩⟩
                  refine ⟨_, rfl, ?_⟩
                  have S22 := S18.turn 1 rfl T22
                  refine L_nil ?_
                  refine hK29 _ _ ?_
                  refine T_seq fun K30 hK30 => ?_
                  refine T_region ?_
                  refine L_y (y_move rfl) rfl ?_
                  refine L_o (o_call Try.func112 rfl rfl (Oct.wbytes g _ _ _ (bodyB l of) w22 (S22.get 1 rfl) (by rw [bodyB_len]; omega)) rfl rfl ?_)
                  rintro e23 w23 ⟨v23, rfl, l23, A70, m70, c70, rfl, O23⟩
                  refine ⟨_, rfl, ?_⟩
                  have S23 := S22.adopt l23 O23
                  refine L_o (o_bsl [_] te177 zz27 S23 rfl rfl rfl rfl rfl rfl rfl rfl fun b24 w24 S24 => ?_)
                  refine L_o (o_call Try.func74 rfl rfl (Sha.shaof [⟨A70, m70, c70, bodyB l of⟩] _ _ _ w24 (S24.row 3 rfl) (fun p hp => by obtain rfl := List.mem_singleton.1 hp; exact S24.row 2 rfl) (by rw [cat1, bodyB_len]; omega) (by simp)) rfl rfl ?_)
                  rintro e25 w25 ⟨v25, rfl, l25, hu25⟩
                  refine ⟨_, rfl, ?_⟩
                  have S25 := S24.like l25
                  rw [cat1] at hu25
                  subst hu25
                  refine L_o (o_alloc zz23 S25 rfl fun b26 w26 hb26 S26 => ?_)
                  refine L_o (o_stW S26 4 rfl rfl rfl (by rw [size_bA, Sha.length_ofL]; exact sz23) (by rw [size_bA, Sha.length_ofL]; rfl) (bL_one _) fun w27 S27 => ?_)
                  refine L_nil ?_
                  refine hK30 _ _ ?_
                  refine T_seq fun K31 hK31 => ?_
                  refine T_region ?_
                  refine L_y (y_move rfl) rfl ?_
                  refine L_y (y_aslice Try.underlying23 sz5 rfl) rfl ?_
                  refine L_o (o_call Try.func110 rfl rfl (Oct.wraw g _ _ _ (bodyB l of) _ _ _ (Sha.ofL (bodyB l of)) w27 (S27.get 1 rfl) (rs_dig (S27.blk 4 rfl)) (by rw [bodyB_len]; omega)) rfl rfl ?_)
                  rintro e28 w28 ⟨v28, rfl, ⟨A28, n28, c28, T28⟩⟩
                  refine ⟨_, rfl, ?_⟩
                  have S28 := S27.turn 1 rfl T28
                  refine L_nil ?_
                  refine hK31 _ _ ?_
                  refine T_seq fun K32 hK32 => ?_
                  refine T_region ?_
                  refine L_y (y_move rfl) rfl ?_
                  refine L_o (o_call Try.func112 rfl rfl (Oct.wbytes g _ _ _ (layB l of) w28 (S28.get 1 rfl) (by unfold layB; rw [List.length_append, bodyB_len, Sha.length_ofL]; omega)) rfl rfl ?_)
                  rintro e29 w29 ⟨v29, rfl, l29, A77, m77, c77, rfl, O29⟩
                  refine ⟨_, rfl, ?_⟩
                  have S29 := S28.adopt l29 O29
                  refine L_y (y_assign rfl) rfl ?_
                  refine L_nil ?_
                  refine hK32 _ _ ?_
                  refine T_ret ?_
                  repeat (first | with_reducible refine up_then ?_ | with_reducible refine up_in ?_)
                  refine ret1 rfl rfl ?_
                  exact ⟨_, rfl, S29.like0, _, _, _, rfl, S29.own 5 rfl⟩
end Go.Proofs.Ytgaklngnfecdaaa.Idx


/-
  make of elements of many cells.
-/
namespace Go.Proofs.Ytgaklngnfecdaaa.Zx
open Go.RowKit Zk
set_option linter.unusedVariables false
set_option linter.unusedSimpArgs false
section
variable {P : Program} {N : Nat} {Q : Exit → Env → World → Prop} {env : Env} {w w0 : World} {M : Nat → Prop} {rs : List Res} {K : Env → World → Prop} {d : Tmp} {ty : TypeId} {pos : String} {after : Array Edge} {g : Option (Nat × Bool)}
theorem o_makeN {t e : TypeId} {z : Value} {size bytes : Nat} {x y : Operand} {k k' : IntKind} {jn jc : Int} {n c : Nat} (TE : Elem P t e z size bytes) (xs : List Value) (hxl : xs.length = n * size) (hxs : ∀ i, i < n * size → xs[i]? = z.cells[i % size]?) (hs0 : 0 < size) (S : St w0 M rs w) (hx : ev env x = some (.int k jn)) (hy : ev env y = some (.int k' jc)) (hn : Nt jn n) (hc : Nt jc c) (hd : Nat.blt d N = true)
    (hnc : n ≤ c) (hbytes : c * bytes ≤ 281474976710656) (hcm : c ≤ 9223372036854775807)
    (h : ∀ b w', St w0 M (rs ++ [row e size (some ⟨b, 0, none⟩) n c xs]) w' → K ((d, .slice (some ⟨b, 0, none⟩) n c) :: env) w') :
    O P N Q ⟨some d, .makeSlice t x y, ty, pos, after, g⟩ env w K := fun a ha => by
  have e1 := hn.eq
  have e2 := hc.eq
  subst e1; subst e2
  obtain ⟨i, hi, hz', hsize, hby⟩ := info_parts TE.hi
  have hb : (i.bytes : Int) * (c : Int) ≤ 281474976710656 := by
    have h : ((i.bytes * c : Nat) : Int) ≤ 281474976710656 := by rw [hby, Nat.mul_comm]; omega
    rwa [Int.natCast_mul] at h
  have hr := run_make (P := P) w t e i z TE.ht hi hz' k k' n c (by omega) (by omega) hb (by omega)
  simp only [Int.toNat_natCast] at hr
  unfold Oper.wp execOp
  simp only [ha.eval hx, ha.eval hy, Sem.run_bind, hr, Result.andThen_ok, Sem.run_pure]
  have hzc : z.cells.size = size := TE.hzs
  have hle : n * size ≤ c * size := Nat.mul_le_mul_right _ hnc
  refine ⟨_, ha.put d _ hd, h _ _ (S.new (like_alloc w _) _ ?_ fun i hi => ?_)⟩
  · refine ⟨hxl, .inr ⟨w.heap.size, c, _, rfl, Nat.zero_le _, heap_alloc_new w _, hnc, by unfold maxLen; omega, ?_, ?_⟩⟩
    · rw [hsize]; simp [madeCells]
    · rw [hsize]
      apply List.ext_getElem?
      intro j
      rw [List.getElem?_take]
      split
      · rename_i hj
        rw [hxs j hj, Array.getElem?_toList, Array.getElem?_eq_getElem (by simp [madeCells]; omega)]
        have hm : j % size < z.cells.size := by rw [hzc]; exact Nat.mod_lt _ hs0
        rw [Array.getElem?_eq_getElem hm]
        simp only [madeCells, Array.getElem_map, Array.getElem_range, hzc]
        rw [getElem!_pos z.cells (j % size) hm]
      · rename_i hj
        exact (List.getElem?_eq_none (by rw [hxl]; omega)).symm
  · change (Value.slice (some ⟨w.heap.size, 0, none⟩) n c).ownBlock = some i at hi
    simp only [Value.ownBlock, Option.some.injEq] at hi
    subst hi
    exact ⟨Nat.le_refl _, by simp⟩
variable {dst : Option Tmp}
/-- A field of many cells of an element. -/
theorem y_ldfN {x : Operand} {A : Option Addr} {n c k size m : Nat} {xs vs : List Value} {lt : TypeId} {d' : TypeDesc} (hd : P.underlying lt = some d') (hrow : d'.isRow = true) (hsz : (P.info? lt).map (·.size) = some m) (hx : ev env x = some (pRF A k)) (hr : Rs w size A n c xs) (hn : 0 < n) (hv : (xs.drop k).take m = vs) (hm : vs.length = m) :
    Y P (Like w) env ⟨dst, .load lt x, ty, pos, after, g⟩ (.agg vs.toArray) := fun N a w' ha hw => by
  subst hv
  obtain ⟨ad, rfl, hb, hcell⟩ := hr.rd.2 (by omega)
  have hagg : (isAgg lt).run P w' = .ok true w' := by
    unfold isAgg
    rw [Sem.run_bind, run_underlying hd w']
    cases d' <;> simp_all [TypeDesc.isRow]
  have h1 := run_loadCells_list (P := P) (w := w') (ad.add k) ((xs.drop k).take m) (fun j v hj => by
    rw [List.getElem?_take] at hj
    split at hj
    · rw [List.getElem?_drop] at hj
      rw [add_of_add]
      exact Like.cell hw (hcell _ _ hj)
    · cases hj)
  rw [hm] at h1
  simp only [execOp, ha.eval hx, pRF, Option.map_some, Instr.loadAt, Instr.sureAddr, loadVar, Sem.run_bind, Sem.run_pure, Result.andThen_ok, hagg, if_true, sizeOf_run hsz, h1]
/-- Of the elements' own cells. -/
theorem flat_part {α : Type} (f : α → List Value) (size : Nat) (hlen : ∀ y, (f y).length = size) (l : List α) (k o m : Nat) (y : α) (h : l[k]? = some y) (ho : o + m ≤ size) : ((l.flatMap f).drop (k * size + o)).take m = ((f y).drop o).take m := by
  rw [← flat_cut f size hlen l k y h, List.drop_take, List.take_take, List.drop_drop, Nat.min_eq_left (by omega)]
/-- 'x[k].f = v' in a row of the call's own, the field of many cells. -/
theorem o_strowF {st : TypeId} {x y : Operand} {e n c k size m : Nat} {A : Option Addr} {xs : List Value} {vs : Array Value} (S : St w0 M rs w) (i : Nat) (hk : rs[i]? = some (row e size A n c xs)) (hx : ev env x = some (pRF A k)) (hy : ev env y = some (.agg vs))
    (hv : ∀ u ∈ vs.toList, u.oneCell' = true) (hvs : vs.size = m) (hsz : (P.info? st).map (·.size) = some m) (hn0 : 0 < n) (hkn : k + m ≤ n * size)
    (h : ∀ w', St w0 M (rs.set i (row e size A n c (xs.take k ++ vs.toList ++ xs.drop (k + m)))) w' → K env w') : O P N Q ⟨none, .store st x y, ty, pos, after, g⟩ env w K := fun a ha => by
  have hown : w.ownsRow 0 e size (.slice A n c) n xs := S.get i hk
  obtain ⟨b, cur, rfl, hg, hnc, hcm, hcs, hxs⟩ := row_cells hown hn0
  have hxa : a.eval x = .pointer (some ⟨b, k, none⟩) := by
    rw [ha.eval hx]
    simp [pRF, Addr.add_mid]
  have hle2 : n * size ≤ c * size := Nat.mul_le_mul_right _ hnc
  have hcl : cur.toList.length = c * size := by rw [Array.length_toList]; exact hcs
  refine wp_stB st x y rfl b k hxa vs (ha.eval hy) e cur hg (by rw [hvs]; exact hsz) (by rw [hvs]; omega) hv fun w' h2 h3 => ⟨env, ha, h w' (S.upd i hk h3.os h3.tape h3.output h3.size (fun j hj hn => h3.block j hj (fun e => hn (by injection e with e; rw [e]; rfl))) ?_ fun j hj => .inl hj)⟩
  have hvl : vs.toList.length = m := by rw [Array.length_toList, hvs]
  refine cells_row h2 hnc hcm ?_ ?_ ?_
  · rw [List.size_toArray, List.length_append, List.length_append, List.length_take, List.length_drop, hvl, hvs, hcl]; omega
  rotate_left
  · rw [List.length_append, List.length_append, List.length_take, List.length_drop, hvl, hown.1]; omega
  rw [hvs]
  show (cur.toList.take k ++ vs.toList ++ cur.toList.drop (k + m)).take (n * size) = _
  have l1 : (cur.toList.take k ++ vs.toList).length = k + m := by rw [List.length_append, List.length_take, hvl]; omega
  rw [List.take_append, l1, List.take_of_length_le (by rw [l1]; omega), ← hxs, List.take_take, Nat.min_eq_left (by omega), List.drop_take]
end
end Go.Proofs.Ytgaklngnfecdaaa.Zx


/-
  Make.
-/
namespace Go.Proofs.Ytgaklngnfecdaaa.Idx
open Go.RowKit Zk Zx
open Oid (idf idf_len cmpL)
set_option linter.unusedVariables false
set_option linter.unusedSimpArgs false

theorem list32 {α : Type} (l : List α) (h : l.length = 32) : ∃ a0 a1 a2 a3 a4 a5 a6 a7 a8 a9 a10 a11 a12 a13 a14 a15 a16 a17 a18 a19 a20 a21 a22 a23 a24 a25 a26 a27 a28 a29 a30 a31, l = [a0, a1, a2, a3, a4, a5, a6, a7, a8, a9, a10, a11, a12, a13, a14, a15, a16, a17, a18, a19, a20, a21, a22, a23, a24, a25, a26, a27, a28, a29, a30, a31] := by
  match l, h with
  | [a0, a1, a2, a3, a4, a5, a6, a7, a8, a9, a10, a11, a12, a13, a14, a15, a16, a17, a18, a19, a20, a21, a22, a23, a24, a25, a26, a27, a28, a29, a30, a31], _ => exact ⟨a0, a1, a2, a3, a4, a5, a6, a7, a8, a9, a10, a11, a12, a13, a14, a15, a16, a17, a18, a19, a20, a21, a22, a23, a24, a25, a26, a27, a28, a29, a30, a31, rfl⟩
theorem built_row (x : Row) : Try.prog.built 119 [(0, .agg (idf x.id).toArray), (1, .int .u32 x.sm), (2, .int .i64 x.at_)] = some (rowf x).toArray := by
  obtain ⟨⟨l, h⟩, s, a⟩ := x
  obtain ⟨a0, a1, a2, a3, a4, a5, a6, a7, a8, a9, a10, a11, a12, a13, a14, a15, a16, a17, a18, a19, a20, a21, a22, a23, a24, a25, a26, a27, a28, a29, a30, a31, rfl⟩ := list32 l h
  kernel_rfl
theorem built_pl (x : Row) : Try.prog.built 62 [(0, .agg (idf x.id).toArray), (1, .int .i64 x.at_), (2, .int .u32 x.sm)] = some (plf x).toArray := by
  obtain ⟨⟨l, h⟩, s, a⟩ := x
  obtain ⟨a0, a1, a2, a3, a4, a5, a6, a7, a8, a9, a10, a11, a12, a13, a14, a15, a16, a17, a18, a19, a20, a21, a22, a23, a24, a25, a26, a27, a28, a29, a30, a31, rfl⟩ := list32 l h
  kernel_rfl

theorem places_len {w : World} {A : Option Addr} {n c : Nat} {l : List Row} (h : Rs w 34 A n c (l.flatMap plf)) : n = l.length := by
  have h2 : (l.flatMap plf).length = n * 34 := h.len
  rw [flat_len plf 34 plf_len] at h2
  omega
/-- Sorted by ids, equal ones side by side; and without equal ones. -/
def WkR (l : List Row) : Prop := ∀ i j (hi : i < l.length) (hj : j < l.length), i < j → Oid.lt l[j].id l[i].id = false
def StR (l : List Row) : Prop := l.Pairwise fun x y => Oid.lt x.id y.id = true
theorem lt_fb {x y : Row} (h : Oid.lt y.id x.id = false) : fb x ≤ fb y := by
  unfold fb
  unfold Oid.lt at h
  have hx := x.id.h
  have hy := y.id.h
  cases ex : x.id.l with
  | nil => rw [ex] at hx; cases hx
  | cons a r =>
    cases ey : y.id.l with
    | nil => rw [ey] at hy; cases hy
    | cons b s =>
      rw [ex, ey] at h
      unfold Oid.belowL at h
      split at h
      · rename_i e; rw [e]; exact Nat.le_refl _
      · have h2 := of_decide_eq_false h
        show a.toNat ≤ b.toNat
        omega
theorem WkR.fs {l : List Row} (h : WkR l) : FS l := by
  unfold FS
  rw [List.pairwise_iff_getElem]
  exact fun i j hi hj hij => lt_fb (h i j hi hj hij)
theorem WkR.strict {l : List Row} (h : WkR l) (hd : ∀ i x y, i + 1 < l.length → l[i]? = some x → l[i + 1]? = some y → x.id ≠ y.id) : StR l := by
  unfold StR
  rw [List.pairwise_iff_getElem]
  intro i j hi hj hij
  have h1 := h i j hi hj hij
  by_cases e : l[j].id = l[i].id
  · exfalso
    have hn := hd i l[i] l[i + 1] (by omega) (List.getElem?_eq_getElem hi) (List.getElem?_eq_getElem (by omega))
    have h2 := h i (i + 1) hi (by omega) (by omega)
    have h3 := Oid.lt_total _ _ h2 (fun q => hn q.symm)
    rcases Nat.lt_or_ge (i + 1) j with q | q
    · have h4 := h (i + 1) j (by omega) hj q
      rw [e, h3] at h4
      cases h4
    · have e2 : j = i + 1 := by omega
      subst e2
      exact hn e.symm
  · exact Oid.lt_total _ _ h1 e
theorem StR.nodup {l : List Row} (h : StR l) : (l.map Row.id).Nodup := by
  unfold List.Nodup
  rw [List.pairwise_map]
  exact h.imp fun hab e => by rw [e, Oid.lt_irr] at hab; cases hab
theorem not_nodup {l : List Row} {i : Nat} {x y : Row} (hx : l[i]? = some x) (hy : l[i + 1]? = some y) (e : x.id = y.id) : ¬ (l.map Row.id).Nodup := fun hn => by
  unfold List.Nodup at hn
  rw [List.pairwise_iff_getElem] at hn
  obtain ⟨h1, h2⟩ := List.getElem?_eq_some_iff.1 hx
  obtain ⟨h3, h4⟩ := List.getElem?_eq_some_iff.1 hy
  refine hn i (i + 1) (by simpa using h1) (by simpa using h3) (by omega) ?_
  simp [h2, h4, e]
theorem row_part {l : List Row} {k : Nat} {x : Row} (h : l[k]? = some x) : ((l.flatMap rowf).drop (k * 34 + 0)).take 32 = idf x.id := by
  rw [flat_part rowf 34 rowf_len l k 0 32 x h (by omega)]
  exact (row_id x).1
def farB (x : Row) : Bool := decide (x.at_ < 0) || decide (1048576 < x.at_)
theorem any_step {l : List Row} {k : Nat} {x : Row} (hx : l[k]? = some x) : (l.take (k + 1)).any farB = ((l.take k).any farB || farB x) := by
  rw [List.take_add_one, hx, List.any_append]
  simp
/-- The error of an index of places. -/
def mkE (l : List Row) : Int := if 600 < l.length then 5 else if ¬ (l.map Row.id).Nodup then 17 else if l.any farB then 2 else 0
structure SumOk (x : Row) : Prop where
  s0 : 0 ≤ x.sm
  s1 : x.sm ≤ 4294967295
theorem rowOk_of {l : List Row} (hs : ∀ x ∈ l, SumOk x) (h : l.any farB = false) : ∀ x ∈ l, RowOk x := fun x hx => by
  rw [List.any_eq_false] at h
  have h1 := h x hx
  simp [farB] at h1
  exact ⟨(hs x hx).s0, (hs x hx).s1, h1.1, h1.2⟩
/-- What Make answers: an error, or the bytes of the sorted rows. -/
def Made (l : List Row) (of : Oid.Id) (bs : List UInt8) : Prop := (mkE l ≠ 0 ∧ bs = []) ∨ (mkE l = 0 ∧ ∃ zs : List Row, zs.Perm l ∧ StR zs ∧ bs = layB zs of)


set_option maxRecDepth 100000 in
theorem make (A : Option Addr) (n c : Nat) (l : List Row) (of : Oid.Id) (w0 : World) (hl : Rs w0 34 A n c (l.flatMap plf)) (hsm : ∀ x ∈ l, SumOk x) :
    Calls Try.prog 25 #[.slice A n c, .agg (idf of).toArray] w0 fun e w' => ∃ u, e = .returned u ∧ Like w0 w' ∧ ∃ A' m c' bs, u = .tuple #[.slice A' m c', .int .i64 (mkE l)] ∧ Made l of bs ∧ w'.ownsRow w0.heap.size 5 1 (.slice A' m c') m (bL bs) := by
  refine enter1 (env := [(0, .slice A n c), (1, .agg (idf of).toArray)]) [.slice A n c, .agg (idf of).toArray] Try.func25 rfl Try.ntmps25 rfl rfl ?_
  have hn := places_len hl; have hcap := hl.cap; have hmax := hl.max
  have S0 := St.start w0 noM
  refine T_seq fun K1 hK1 => ?_
  refine T_region ?_
  refine L_o (o_box rfl S0 rfl fun b1 w1 hb1 S1 => ?_)
  refine L_y (y_assign rfl) rfl ?_
  refine L_y (y_assign rfl) rfl ?_
  refine L_nil ?_
  refine hK1 _ _ ?_
  refine T_seq fun K2 hK2 => ?_
  refine T_seq fun K3 hK3 => ?_
  refine T_region ?_
  refine L_y (y_move rfl) rfl ?_
  refine L_y (y_len Try.underlying43 rfl) rfl ?_
  refine L_y (y_gtr rfl rfl) rfl ?_
  refine L_nil ?_
  refine hK3 _ _ ?_
  refine T_cond rfl (fun h13 => ?_) (fun h13 => ?_)
  ·
    refine T_seq fun K4 hK4 => ?_
    refine T_region ?_
    refine L_y (y_assign rfl) rfl ?_
    refine L_y (y_assign rfl) rfl ?_
    refine L_nil ?_
    refine hK4 _ _ ?_
    refine T_ret ?_
    repeat (first | with_reducible refine up_then ?_ | with_reducible refine up_in ?_)
    refine ret2 rfl rfl rfl ?_
    have he : mkE l = 5 := by unfold mkE; rw [if_pos (by omega)]
    exact ⟨_, rfl, S1.like0, none, 0, 0, [], by rw [he], .inl ⟨by rw [he]; decide, rfl⟩, World.ownsRow_nil _ _ _ _⟩
  ·
    refine T_skip ?_
    refine hK2 _ _ ?_
    refine T_seq fun K5 hK5 => ?_
    refine T_region ?_
    refine L_y (y_move rfl) rfl ?_
    refine L_y (y_len Try.underlying43 rfl) rfl ?_
    refine L_o (o_makeN te94 [] (by simp) (fun i hi => by omega) (by omega) S1 rfl rfl inferInstance inferInstance rfl (by omega) (by omega) (by omega) fun b2 w2 S2 => ?_)
    refine L_y (y_assign rfl) rfl ?_
    refine L_nil ?_
    refine hK5 _ _ ?_
    refine T_seq fun K6 hK6 => ?_
    refine T_region ?_
    refine L_y (y_assign rfl) rfl ?_
    refine L_nil ?_
    refine hK6 _ _ ?_
    refine T_seq fun K7 hK7 => ?_
    refine T_seq fun K8 hK8 => ?_
    refine T_region ?_
    refine L_y (y_move rfl) rfl ?_
    refine L_y (y_len Try.underlying43 rfl) rfl ?_
    refine L_y (y_move rfl) rfl ?_
    refine L_nil ?_
    refine hK8 _ _ ?_
    refine T_block ?_
    refine T_loop3 [(3, _), (17, _), (18, _)] (fun (k : Nat) (A1 : Option Addr) (c1 : Nat) => [(19, .int .i64 (k : Int)), (6, .slice A1 k c1), (7, .bool ((l.take k).any farB))]) (fun (k : Nat) (A1 : Option Addr) (c1 : Nat) => l.length - k) (fun (k : Nat) (A1 : Option Addr) (c1 : Nat) (w : World) => k ≤ l.length ∧ Zx.St w0 noM [blk b1 23 (idf of).toArray, Zx.row 119 34 A1 k c1 ((l.take k).flatMap rowf)] w) 0 _ _ (Sub.cons rfl (by first | rfl | exact congrArg (Value.int _) (by omega)) (Sub.cons rfl (by first | rfl | exact congrArg (Value.int _) (by omega)) (Sub.cons rfl (by first | rfl | exact congrArg (Value.int _) (by omega)) (Sub.nil _)))) (Sub.cons rfl rfl (Sub.cons rfl rfl (Sub.cons rfl rfl (Sub.nil _)))) ?_ ?_
    ·
      exact ⟨by omega, S2⟩
    ·
      intro k A1 c1 w3 hrel
      obtain ⟨hk, S3⟩ := hrel
      refine T_seq fun K9 hK9 => ?_
      refine T_region ?_
      refine L_y (y_lss rfl rfl) rfl ?_
      refine L_nil ?_
      refine hK9 _ _ ?_
      refine T_seq fun K10 hK10 => ?_
      refine T_cond rfl (fun h20 => ?_) (fun h20 => ?_)
      ·
        obtain ⟨x, hx⟩ : ∃ x, l[k]? = some x := ⟨_, List.getElem?_eq_getElem (by omega)⟩
        refine T_skip ?_
        refine hK10 _ _ ?_
        refine T_seq fun K11 hK11 => ?_
        refine T_block ?_
        refine T_seq fun K12 hK12 => ?_
        refine T_region ?_
        refine L_y (y_idx Try.underlying43 sz62 rfl rfl (by first | exact S3.rd hl | exact S3.row 1 rfl) inferInstance (by omega)) rfl ?_
        refine L_y (y_ldp (f := plf) plf_len Try.underlying62 rfl sz62 rfl (S3.rd hl) (by omega) hx) rfl ?_
        refine L_o (o_alloc zz62 S3 rfl fun b4 w4 hb4 S4 => ?_)
        refine L_o (o_stW S4 2 rfl rfl rfl (by rw [plf_sz]; exact sz62) (by rw [plf_sz]; rfl) (fun u hu => plf_one _ u (by rw [List.toList_toArray] at hu; exact hu)) fun w5 S5 => ?_)
        refine L_nil ?_
        refine hK12 _ _ ?_
        refine T_seq fun K13 hK13 => ?_
        refine T_region ?_
        refine L_y (y_move rfl) rfl ?_
        refine L_y (y_fieldA 0 Try.underlying62 rfl sz23 rfl rfl rfl) rfl ?_
        refine L_y (y_ldW Try.underlying23 rfl sz23 rfl (S5.blk 2 rfl) (pl_id x)) rfl ?_
        refine L_y (y_fieldA 33 Try.underlying62 rfl sz60 rfl rfl rfl) rfl ?_
        refine L_y (y_ldc Try.underlying60 rfl rfl (((S5.blk 2 rfl).cell _).trans (pl33 x))) rfl ?_
        refine L_y (y_fieldA 32 Try.underlying62 rfl sz3 rfl rfl rfl) rfl ?_
        refine L_y (y_ldc Try.underlying3 rfl rfl (((S5.blk 2 rfl).cell _).trans (pl32 x))) rfl ?_
        refine L_y (y_build rfl (built_row x)) rfl ?_
        refine L_o (o_bsl (rowf x) te94 zz119 S5 rfl rfl rfl (by simp [Value.cells, rowf_len]) (by simp [Value.cells]) rfl rfl rfl fun b6 w6 S6 => ?_)
        refine L_o (o_app te94 S6 1 rfl rfl rfl (by first | exact S6.rd hl | exact S6.row 1 rfl | exact S6.row 3 rfl) (rowf_one _) rfl (by omega) (by omega) fun A7 c7 w7 S7 => ?_)
        have S7d := S7.drop (rs' := [_, _, _]) (.cons_cons _ (.cons_cons _ (.cons_cons _ (.cons _ (.refl _)))))
        refine L_y (y_assign rfl) rfl ?_
        refine L_nil ?_
        refine hK13 _ _ ?_
        refine T_region ?_
        refine L_y (y_move rfl) rfl ?_
        refine L_y (y_move rfl) rfl ?_
        refine L_splitB 34 rfl (fun h34 => ?_) (fun h34 => ?_)
        ·
          refine L_gno rfl rfl rfl ?_
          refine L_gno rfl rfl rfl ?_
          refine L_gno rfl rfl rfl ?_
          refine L_y ((by first | exact y_pickT rfl rfl | exact y_pickF rfl rfl)) rfl ?_
          refine L_y (y_move rfl) rfl ?_
          refine L_gno rfl rfl rfl ?_
          refine L_gno rfl rfl rfl ?_
          refine L_gno rfl rfl rfl ?_
          refine L_y ((by first | exact y_pickT rfl rfl | exact y_pickF rfl rfl)) rfl ?_
          refine L_y (y_assign rfl) rfl ?_
          refine L_nil ?_
          refine hK11 _ _ ?_
          refine T_region ?_
          refine L_y (y_add rfl rfl (i64w (by omega))) rfl ?_
          refine L_y (y_move rfl) rfl ?_
          refine L_nil ?_
          have S91 := S7d.sel [0, 1] (by decide)
          have S92 := S91.rowc 1 rfl (n' := k + 1) (xs' := (l.take (k + 1)).flatMap rowf) rfl (take1 rowf hx).symm
          refine ⟨k + 1, _, _, by omega, ⟨by omega, S92⟩, ?_⟩
          exact (Sub.cons rfl (by first | rfl | exact congrArg (Value.int _) (by omega)) (Sub.cons rfl (by first | rfl | exact congrArg (Value.int _) (by omega)) (Sub.cons rfl (congrArg Value.bool (by rw [any_step hx]; first | (rw [show (l.take k).any farB = true from h34]; rfl) | (rw [show (l.take k).any farB = false from h34]; simp [farB, h39]) )) (Sub.cons rfl rfl (Sub.cons rfl rfl (Sub.cons rfl rfl (Sub.nil _)))))))
        ·
          refine L_gyes rfl rfl ?_
          refine L_y (y_fieldA 32 Try.underlying62 rfl sz3 rfl rfl rfl) rfl ?_
          refine L_gyes rfl rfl ?_
          refine L_y (y_ldc Try.underlying3 rfl rfl (((S7d.blk 2 rfl).cell _).trans (pl32 x))) rfl ?_
          refine L_gyes rfl rfl ?_
          refine L_y (y_lss rfl rfl) rfl ?_
          refine L_y ((by first | exact y_pickT rfl rfl | exact y_pickF rfl rfl)) rfl ?_
          refine L_y (y_move rfl) rfl ?_
          refine L_split 39 rfl (fun h39 => ?_) (fun h39 => ?_)
          ·
            refine L_gno rfl rfl rfl ?_
            refine L_gno rfl rfl rfl ?_
            refine L_gno rfl rfl rfl ?_
            refine L_y ((by first | exact y_pickT rfl rfl | exact y_pickF rfl rfl)) rfl ?_
            refine L_y (y_assign rfl) rfl ?_
            refine L_nil ?_
            refine hK11 _ _ ?_
            refine T_region ?_
            refine L_y (y_add rfl rfl (i64w (by omega))) rfl ?_
            refine L_y (y_move rfl) rfl ?_
            refine L_nil ?_
            have S91 := S7d.sel [0, 1] (by decide)
            have S92 := S91.rowc 1 rfl (n' := k + 1) (xs' := (l.take (k + 1)).flatMap rowf) rfl (take1 rowf hx).symm
            refine ⟨k + 1, _, _, by omega, ⟨by omega, S92⟩, ?_⟩
            exact (Sub.cons rfl (by first | rfl | exact congrArg (Value.int _) (by omega)) (Sub.cons rfl (by first | rfl | exact congrArg (Value.int _) (by omega)) (Sub.cons rfl (congrArg Value.bool (by rw [any_step hx]; first | (rw [show (l.take k).any farB = true from h34]; rfl) | (rw [show (l.take k).any farB = false from h34]; simp [farB, h39]) )) (Sub.cons rfl rfl (Sub.cons rfl rfl (Sub.cons rfl rfl (Sub.nil _)))))))
          ·
            refine L_gyes rfl rfl ?_
            refine L_y (y_fieldA 32 Try.underlying62 rfl sz3 rfl rfl rfl) rfl ?_
            refine L_gyes rfl rfl ?_
            refine L_y (y_ldc Try.underlying3 rfl rfl (((S7d.blk 2 rfl).cell _).trans (pl32 x))) rfl ?_
            refine L_gyes rfl rfl ?_
            refine L_y (y_gtr rfl rfl) rfl ?_
            refine L_y ((by first | exact y_pickT rfl rfl | exact y_pickF rfl rfl)) rfl ?_
            refine L_y (y_assign rfl) rfl ?_
            refine L_nil ?_
            refine hK11 _ _ ?_
            refine T_region ?_
            refine L_y (y_add rfl rfl (i64w (by omega))) rfl ?_
            refine L_y (y_move rfl) rfl ?_
            refine L_nil ?_
            have S91 := S7d.sel [0, 1] (by decide)
            have S92 := S91.rowc 1 rfl (n' := k + 1) (xs' := (l.take (k + 1)).flatMap rowf) rfl (take1 rowf hx).symm
            refine ⟨k + 1, _, _, by omega, ⟨by omega, S92⟩, ?_⟩
            exact (Sub.cons rfl (by first | rfl | exact congrArg (Value.int _) (by omega)) (Sub.cons rfl (by first | rfl | exact congrArg (Value.int _) (by omega)) (Sub.cons rfl (congrArg Value.bool (by rw [any_step hx]; first | (rw [show (l.take k).any farB = true from h34]; rfl) | (rw [show (l.take k).any farB = false from h34]; simp [farB, h39]) )) (Sub.cons rfl rfl (Sub.cons rfl rfl (Sub.cons rfl rfl (Sub.nil _)))))))
      ·
        have hke : k = l.length := by omega
        subst hke
        rw [List.take_length] at S3
        refine T_exit ?_
        refine hK7 _ _ ?_
        refine T_seq fun K14 hK14 => ?_
        refine T_region ?_
        refine L_y (y_move rfl) rfl ?_
        refine L_o (o_call Try.func63 rfl rfl (sortRA A1 l.length c1 l w3 rfl (S3.get 1 rfl) (by omega)) rfl rfl ?_)
        rintro e10 w10 ⟨v10, rfl, zs, hp, hwk, T10⟩
        refine ⟨_, rfl, ?_⟩
        have S10 := S3.turn 1 rfl T10
        have hzl : zs.length = l.length := hp.length_eq
        refine L_nil ?_
        refine hK14 _ _ ?_
        refine T_seq fun K15 hK15 => ?_
        refine T_seq fun K16 hK16 => ?_
        refine T_region ?_
        refine L_y (y_assign rfl) rfl ?_
        refine L_nil ?_
        refine hK16 _ _ ?_
        refine T_block ?_
        refine T_loop1 [(3, _), (6, _), (7, _)] (fun (j : Nat) => [(10, .int .i64 (j : Int))]) (fun (j : Nat) => zs.length - j) (fun (j : Nat) (w : World) => (1 ≤ j ∧ ∀ i x y, i + 1 < j → zs[i]? = some x → zs[i + 1]? = some y → x.id ≠ y.id) ∧ Zx.St w0 noM [blk b1 23 (idf of).toArray, Zx.row 119 34 A1 l.length c1 (zs.flatMap rowf)] w) 1 (Sub.cons rfl (by first | rfl | exact congrArg (Value.int _) (by omega)) (Sub.nil _)) (Sub.cons rfl rfl (Sub.cons rfl rfl (Sub.cons rfl rfl (Sub.nil _)))) ?_ ?_
        ·
          exact ⟨⟨by omega, fun i x y hi => by omega⟩, S10⟩
        ·
          intro j w11 hrel
          obtain ⟨⟨hj, hdf⟩, S11⟩ := hrel
          refine T_seq fun K17 hK17 => ?_
          refine T_seq fun K18 hK18 => ?_
          refine T_region ?_
          refine L_y (y_move rfl) rfl ?_
          refine L_y (y_move rfl) rfl ?_
          refine L_y (y_len Try.underlying94 rfl) rfl ?_
          refine L_y (y_lss rfl rfl) rfl ?_
          refine L_nil ?_
          refine hK18 _ _ ?_
          refine T_cond rfl (fun h50 => ?_) (fun h50 => ?_)
          ·
            obtain ⟨p, hx1⟩ : ∃ x, zs[j - 1]? = some x := ⟨_, List.getElem?_eq_getElem (by omega)⟩
            obtain ⟨q, hx2⟩ : ∃ x, zs[j]? = some x := ⟨_, List.getElem?_eq_getElem (by omega)⟩
            refine T_skip ?_
            refine hK17 _ _ ?_
            refine T_seq fun K19 hK19 => ?_
            refine T_block ?_
            refine T_seq fun K20 hK20 => ?_
            refine T_drawnL [(0, true), (1, true), (2, true), (3, true), (4, true), (5, true), (6, true), (7, true), (8, true), (9, true), (10, true), (11, true)] hmix (by kernel_rfl) fun w12 l12 => ?_
            have S12 := S11.like l12
            refine DL_y rfl (y_move rfl) rfl ?_
            refine DL_y rfl (y_move rfl) rfl ?_
            refine DL_y rfl (y_sub rfl rfl (i64w (by omega))) rfl ?_
            refine DL_y rfl (y_idx Try.underlying94 sz119 rfl rfl (S12.row 1 rfl) (Nt.mk (by omega) : Nt _ (j - 1)) (by omega)) rfl ?_
            refine DL_y rfl (y_fieldR 0 Try.underlying119 rfl sz23 rfl rfl (S12.row 1 rfl) (by omega) rfl) rfl ?_
            refine DL_y rfl (y_ldfN Try.underlying23 rfl sz23 rfl (S12.row 1 rfl) (by omega) (row_part hx1) (idf_len _)) rfl ?_
            refine DL_y rfl (y_move rfl) rfl ?_
            refine DL_y rfl (y_move rfl) rfl ?_
            refine DL_y rfl (y_idx Try.underlying94 sz119 rfl rfl (S12.row 1 rfl) inferInstance (by omega)) rfl ?_
            refine DL_y rfl (y_fieldR 0 Try.underlying119 rfl sz23 rfl rfl (S12.row 1 rfl) (by omega) rfl) rfl ?_
            refine DL_y rfl (y_ldfN Try.underlying23 rfl sz23 rfl (S12.row 1 rfl) (by omega) (row_part hx2) (idf_len _)) rfl ?_
            refine DL_y rfl (y_eqB Try.underlying23 Try.underlying5 sz5 (by kernel_rfl) rfl rfl (Oid.Id.h _) (Oid.Id.h _)) rfl ?_
            refine DL_nil ?_
            refine hK20 _ _ ?_
            refine T_cond rfl (fun h64 => ?_) (fun h64 => ?_)
            ·
              have hnn : ¬ (l.map Row.id).Nodup := fun hn9 => not_nodup hx1 (by rw [show j - 1 + 1 = j by omega]; exact hx2) (Oid.Id.ext h64) ((hp.map Row.id).nodup_iff.2 hn9)
              refine T_seq fun K21 hK21 => ?_
              refine T_region ?_
              refine L_y (y_assign rfl) rfl ?_
              refine L_y (y_assign rfl) rfl ?_
              refine L_nil ?_
              refine hK21 _ _ ?_
              refine T_ret ?_
              repeat (first | with_reducible refine up_then ?_ | with_reducible refine up_in ?_)
              refine ret2 rfl rfl rfl ?_
              have he : mkE l = 17 := by unfold mkE; rw [if_neg (by omega), if_pos hnn]
              exact ⟨_, rfl, S12.like0, none, 0, 0, [], by rw [he], .inl ⟨by rw [he]; decide, rfl⟩, World.ownsRow_nil _ _ _ _⟩
            ·
              refine T_skip ?_
              refine hK19 _ _ ?_
              refine T_region ?_
              refine L_y (y_move rfl) rfl ?_
              refine L_y (y_add rfl rfl (i64w (by omega))) rfl ?_
              refine L_y (y_assign rfl) rfl ?_
              refine L_nil ?_
              refine ⟨j + 1, by omega, ⟨⟨by omega, fun i x y hi hx hy => by rcases Nat.lt_or_ge (i + 1) j with q | q; exact hdf i x y q hx hy; (have e9 : i = j - 1 := by omega); subst e9; rw [hx1] at hx; cases hx; rw [show j - 1 + 1 = j by omega, hx2] at hy; cases hy; exact fun e => h64 (by rw [e])⟩, S12⟩, ?_⟩
              exact (Sub.cons rfl (by first | rfl | exact congrArg (Value.int _) (by omega)) (Sub.cons rfl rfl (Sub.cons rfl rfl (Sub.cons rfl rfl (Sub.nil _)))))
          ·
            have hst : StR zs := WkR.strict hwk (fun i x y hi hx hy => hdf i x y (by omega) hx hy)
            have hnd : (l.map Row.id).Nodup := (hp.map Row.id).nodup_iff.1 hst.nodup
            refine T_exit ?_
            refine hK15 _ _ ?_
            refine T_seq fun K22 hK22 => ?_
            refine T_seq fun K23 hK23 => ?_
            refine T_region ?_
            refine L_y (y_move rfl) rfl ?_
            refine L_nil ?_
            refine hK23 _ _ ?_
            refine T_condB rfl (fun h65 => ?_) (fun h65 => ?_)
            ·
              refine T_seq fun K24 hK24 => ?_
              refine T_region ?_
              refine L_y (y_assign rfl) rfl ?_
              refine L_y (y_assign rfl) rfl ?_
              refine L_nil ?_
              refine hK24 _ _ ?_
              refine T_ret ?_
              repeat (first | with_reducible refine up_then ?_ | with_reducible refine up_in ?_)
              refine ret2 rfl rfl rfl ?_
              have he : mkE l = 2 := by unfold mkE; rw [if_neg (by omega), if_neg (fun h => h hnd), if_pos (by simpa using h65)]
              exact ⟨_, rfl, S11.like0, none, 0, 0, [], by rw [he], .inl ⟨by rw [he]; decide, rfl⟩, World.ownsRow_nil _ _ _ _⟩
            ·
              refine T_skip ?_
              refine hK22 _ _ ?_
              refine T_seq fun K25 hK25 => ?_
              refine T_region ?_
              refine L_y (y_move rfl) rfl ?_
              refine L_y (y_ldW Try.underlying23 rfl sz23 rfl (S11.blk 0 rfl) (⟨by rw [List.drop_zero]; exact List.take_of_length_le (by simp [idf_len]), by rw [idf_len]⟩ : _ = idf of ∧ _)) rfl ?_
              refine L_o (o_call Try.func65 rfl rfl (lay A1 l.length c1 zs of w11 (S11.row 1 rfl) (WkR.fs hwk) (fun x hx => rowOk_of hsm (by simpa using h65) x (hp.mem_iff.1 hx)) (by omega)) rfl rfl ?_)
              rintro e13 w13 ⟨v13, rfl, l13, A', m', c', rfl, O13⟩
              refine ⟨_, rfl, ?_⟩
              have S13 := S11.adopt l13 O13
              refine L_y (y_assign rfl) rfl ?_
              refine L_y (y_assign rfl) rfl ?_
              refine L_nil ?_
              refine hK25 _ _ ?_
              refine T_ret ?_
              repeat (first | with_reducible refine up_then ?_ | with_reducible refine up_in ?_)
              refine ret2 rfl rfl rfl ?_
              have he : mkE l = 0 := by unfold mkE; rw [if_neg (by omega), if_neg (fun h => h hnd), if_neg (by simp only [List.take_length] at h65; rw [h65]; decide)]
              exact ⟨_, rfl, S13.like0, A', m', c', _, by rw [he], .inr ⟨he, zs, hp, hst, rfl⟩, S13.own 2 rfl⟩
end Go.Proofs.Ytgaklngnfecdaaa.Idx
