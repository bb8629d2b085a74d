/-
  The reference of a block.
-/
import Derived.Test.YtanelemeljbbcaaE
import Derived.Test.YtanelemeljbbcaaC
namespace Go.Proofs.Ytanelemeljbbcaa
open Go.RowKit Zk Zx
set_option linter.unusedVariables false
set_option linter.unusedSimpArgs false

theorem pureC {P : Program} {f : FuncId} {args : Array Value} {w : World} {v : Value} (h : Calls P f args w fun e w' => e = .returned v ∧ w = w') : Calls P f args w fun e w' => ∃ u, e = .returned u ∧ Like w w' ∧ u = v :=
  h.mono fun e w' ⟨h1, h2⟩ => ⟨_, h1, h2 ▸ Like.refl w, rfl⟩
theorem belowC {P : Program} {f : FuncId} {args : Array Value} {w : World} {v : Value} (h : Calls P f args w fun e w' => e = .returned v ∧ Below w.heap.size w w') : Calls P f args w fun e w' => ∃ u, e = .returned u ∧ Like w w' ∧ u = v :=
  h.mono fun e w' ⟨h1, h2⟩ => ⟨_, h1, h2, rfl⟩
theorem blockS_comm (v : Go.Proofs.Ytanelemeljbbcaa.St) (b : List UInt8) : [v.a + (rounds (sched b 64) v 64).a, v.b + (rounds (sched b 64) v 64).b, v.c + (rounds (sched b 64) v 64).c, v.d + (rounds (sched b 64) v 64).d, v.e + (rounds (sched b 64) v 64).e, v.f + (rounds (sched b 64) v 64).f, v.g + (rounds (sched b 64) v 64).g, v.h + (rounds (sched b 64) v 64).h] = (blockS v b).list := by
  simp only [blockS]
  generalize rounds (sched b 64) v 64 = R
  simp only [St.add, St.list, UInt32.add_comm]
def z8 : List UInt32 := List.replicate 8 0
theorem shr3F (x : UInt32) : Int.fdiv (N x) (2 ^ (min (3 : Int).toNat IntKind.u32.bits)) = N (x >>> 3) := by
  rw [← shr3N]
  exact Int.fdiv_eq_ediv_of_nonneg _ (by decide)
theorem shr10F (x : UInt32) : Int.fdiv (N x) (2 ^ (min (10 : Int).toNat IntKind.u32.bits)) = N (x >>> 10) := by
  rw [← shr10N]
  exact Int.fdiv_eq_ediv_of_nonneg _ (by decide)
theorem wordR (b : List UInt8) (t : Nat) : IntKind.u32.wrap (((g8 b (4 * t) * 256 % 4294967296 + g8 b (4 * t + 1)) % 4294967296 * 65536 % 4294967296 + g8 b (4 * t + 2) * 256 % 4294967296) % 4294967296 + g8 b (4 * t + 3)) = N (word b t) := by
  have h0 := (b.getD (4 * t) 0).toNat_lt
  have h1 := (b.getD (4 * t + 1) 0).toNat_lt
  have h2 := (b.getD (4 * t + 2) 0).toNat_lt
  have h3 := (b.getD (4 * t + 3) 0).toNat_lt
  rw [IntKind.wrap_u32]
  unfold g8 N word
  rw [UInt32.toNat_ofNat']
  omega


set_option maxRecDepth 100000 in
theorem refconst (w0 : World) :
    Calls Try.prog 22 #[] w0 fun e w' => ∃ v, e = .returned v ∧ Like w0 w' ∧ ∃ A m c, v = .slice A m c ∧ m = 64 ∧ w'.ownsRow w0.heap.size 34 1 (.slice A m c) m (uL kL) := by
  refine enter1 (env := []) [] Try.func22 rfl Try.ntmps22 rfl rfl ?_
  have S0 := St.start w0 noM
  refine T_seq fun K1 hK1 => ?_
  refine T_region ?_
  refine L_y (y_assign rfl) rfl ?_
  refine L_nil ?_
  refine hK1 _ _ ?_
  refine T_seq fun K2 hK2 => ?_
  refine T_region ?_
  refine L_o (o_bsl [_, _, _, _, _, _, _, _, _, _, _, _, _, _, _, _, _, _, _, _, _, _, _, _, _, _, _, _, _, _, _, _, _, _, _, _, _, _, _, _, _, _, _, _, _, _, _, _, _, _, _, _, _, _, _, _, _, _, _, _, _, _, _, _] te48 zz34 S0 rfl rfl rfl rfl rfl rfl rfl rfl fun b1 w1 S1 => ?_)
  refine L_y (y_assign rfl) rfl ?_
  refine L_nil ?_
  refine hK2 _ _ ?_
  refine T_ret ?_
  repeat (first | with_reducible refine up_then ?_ | with_reducible refine up_in ?_)
  refine ret1 rfl rfl ?_
  exact ⟨_, rfl, S1.like0, _, _, _, rfl, rfl, (S1.rowc 0 rfl (xs' := uL kL) rfl (by kernel_rfl)).own 0 rfl⟩


set_option maxRecDepth 100000 in
theorem refblock (v : Go.Proofs.Ytanelemeljbbcaa.St) (b : List UInt8) (B : Option Addr) (n cb : Nat) (hn : n = 64) (w0 : World) (hb : Rs w0 1 B n cb (bL b)) :
    Calls Try.prog 14 #[.agg (uA v.list), .slice B n cb] w0 fun e w' => ∃ u, e = .returned u ∧ Like w0 w' ∧ u = .agg (uA (blockS v b).list) := by
  refine enter1 (env := [(0, .agg (uA v.list)), (1, .slice B n cb)]) [.agg (uA v.list), .slice B n cb] Try.func14 rfl Try.ntmps14 rfl rfl ?_
  have S0 := St.start w0 noM
  refine T_seq fun K1 hK1 => ?_
  refine T_region ?_
  refine L_o (o_box rfl S0 rfl fun b1 w1 hb1 S1 => ?_)
  refine L_o (o_alloc zz35 S1 rfl fun b2 w2 hb2 S2 => ?_)
  refine L_nil ?_
  refine hK1 _ _ ?_
  refine T_seq fun K2 hK2 => ?_
  refine T_region ?_
  refine L_o (o_call Try.func22 rfl rfl (refconst _) rfl rfl ?_)
  rintro e3 w3 ⟨v3, rfl, l3, A3, m3, c3, rfl, rfl, o3⟩
  refine ⟨_, rfl, ?_⟩
  have S3 := S2.adopt l3 o3
  refine L_y (y_assign rfl) rfl ?_
  refine L_nil ?_
  refine hK2 _ _ ?_
  refine T_seq fun K3 hK3 => ?_
  refine T_region ?_
  have S4 := S3.nilrow 34 1
  refine L_y (y_assign rfl) rfl ?_
  refine L_nil ?_
  refine hK3 _ _ ?_
  refine T_seq fun K4 hK4 => ?_
  refine T_seq fun K5 hK5 => ?_
  refine T_region ?_
  refine L_y (y_assign rfl) rfl ?_
  refine L_nil ?_
  refine hK5 _ _ ?_
  refine T_block ?_
  refine T_loop3 [(1, _), (2, _), (4, _), (5, _)] (fun (k : Nat) (A : Option Addr) (c : Nat) => [(6, .slice A k c), (7, .int .i64 (k : Int))]) (fun (k : Nat) (A : Option Addr) (c : Nat) => 16 - k) (fun (k : Nat) (A : Option Addr) (c : Nat) (w : World) => k ≤ 16 ∧ Zx.St w0 noM [blk b1 35 (uA v.list), blk b2 35 (uA z8), row 34 1 A3 64 c3 (uL kL), row 34 1 A k c (uL (sched b k))] w) 0 none 0 (Sub.cons rfl (by first | rfl | exact congrArg (Value.int _) (by omega)) (Sub.cons rfl (by first | rfl | exact congrArg (Value.int _) (by omega)) (Sub.nil _))) (Sub.cons rfl rfl (Sub.cons rfl rfl (Sub.cons rfl rfl (Sub.cons rfl rfl (Sub.nil _))))) ?_ ?_
  ·
    exact ⟨Nat.zero_le _, S4⟩
  ·
    intro k A c w5 hrel
    obtain ⟨hk, S5⟩ := hrel
    refine T_seq fun K6 hK6 => ?_
    refine T_seq fun K7 hK7 => ?_
    refine T_region ?_
    refine L_y (y_move rfl) rfl ?_
    refine L_y (y_lss rfl rfl) rfl ?_
    refine L_nil ?_
    refine hK7 _ _ ?_
    refine T_cond rfl (fun h26 => ?_) (fun h26 => ?_)
    ·
      have hlt : k < 16 := by omega
      refine T_skip ?_
      refine hK6 _ _ ?_
      refine T_seq fun K8 hK8 => ?_
      refine T_block ?_
      refine T_zed [0, 1, 2, 3, 4, 5, 6, 7, 8, 9, 10, 11, 12, 13, 14, 15, 16, 17, 18, 19, 20, 21, 22, 23, 24, 25, 26, 27, 28, 29, 30, 31, 32, 33, 34] 35 [(0, 1), (1, 1), (2, 1), (3, 1), (4, 1), (5, 1), (6, 1), (7, 1), (8, 1), (9, 1), (10, 1), (11, 1), (12, 1), (13, 1), (14, 1), (15, 1), (16, 1), (17, 1), (18, 1), (19, 1), (20, 1), (21, 1), (22, 1), (23, 1), (24, 1), (25, 1), (26, 1), (27, 1), (28, 1), (29, 1), (30, 1), (31, 1), (32, 1), (33, 1), (34, 2), (35, 3), (36, 3)] hmix (by kernel_rfl) fun w6 l6 => ?_
      have S6 := S5.like l6
      refine ZA_B (Like w6) (Like.refl _) ?_
      refine ZB_y rfl (y_move rfl) rfl ?_
      refine ZB_y rfl (y_move rfl) rfl ?_
      refine ZB_y rfl (y_move rfl) rfl ?_
      refine ZB_y rfl (y_mul rfl rfl (i64w (by omega))) rfl ?_
      refine ZB_y rfl (y_idx Try.underlying23 sz5 rfl rfl (by first | exact S6.rd hb | exact S6.row 2 rfl | exact S6.row 3 rfl) inferInstance (by omega)) rfl ?_
      refine ZB_yb rfl (y_ldb Try.underlying5 rfl rfl (by first | exact S6.rd hb | exact S6.row 2 rfl | exact S6.row 3 rfl) (by omega)) rfl fun _ _ => ?_
      refine ZB_y rfl (y_conv is5 Try.underlying34 rfl (u32w (by omega))) rfl ?_
      refine ZB_y rfl (y_mul rfl rfl (IntKind.wrap_u32 _)) rfl ?_
      refine ZB_y rfl (y_move rfl) rfl ?_
      refine ZB_y rfl (y_move rfl) rfl ?_
      refine ZB_y rfl (y_mul rfl rfl (i64w (by omega))) rfl ?_
      refine ZB_y rfl (y_add rfl rfl (i64w (by omega))) rfl ?_
      refine ZB_y rfl (y_idx Try.underlying23 sz5 rfl rfl (by first | exact S6.rd hb | exact S6.row 2 rfl | exact S6.row 3 rfl) inferInstance (by omega)) rfl ?_
      refine ZB_yb rfl (y_ldb Try.underlying5 rfl rfl (by first | exact S6.rd hb | exact S6.row 2 rfl | exact S6.row 3 rfl) (by omega)) rfl fun _ _ => ?_
      refine ZB_y rfl (y_conv is5 Try.underlying34 rfl (u32w (by omega))) rfl ?_
      refine ZB_y rfl (y_add rfl rfl (IntKind.wrap_u32 _)) rfl ?_
      refine ZB_y rfl (y_mul rfl rfl (IntKind.wrap_u32 _)) rfl ?_
      refine ZB_y rfl (y_move rfl) rfl ?_
      refine ZB_y rfl (y_move rfl) rfl ?_
      refine ZB_y rfl (y_mul rfl rfl (i64w (by omega))) rfl ?_
      refine ZB_y rfl (y_add rfl rfl (i64w (by omega))) rfl ?_
      refine ZB_y rfl (y_idx Try.underlying23 sz5 rfl rfl (by first | exact S6.rd hb | exact S6.row 2 rfl | exact S6.row 3 rfl) inferInstance (by omega)) rfl ?_
      refine ZB_yb rfl (y_ldb Try.underlying5 rfl rfl (by first | exact S6.rd hb | exact S6.row 2 rfl | exact S6.row 3 rfl) (by omega)) rfl fun _ _ => ?_
      refine ZB_y rfl (y_conv is5 Try.underlying34 rfl (u32w (by omega))) rfl ?_
      refine ZB_y rfl (y_mul rfl rfl (IntKind.wrap_u32 _)) rfl ?_
      refine ZB_y rfl (y_add rfl rfl (IntKind.wrap_u32 _)) rfl ?_
      refine ZB_y rfl (y_move rfl) rfl ?_
      refine ZB_y rfl (y_move rfl) rfl ?_
      refine ZB_y rfl (y_mul rfl rfl (i64w (by omega))) rfl ?_
      refine ZB_y rfl (y_add rfl rfl (i64w (by omega))) rfl ?_
      refine ZB_y rfl (y_idx Try.underlying23 sz5 rfl rfl (by first | exact S6.rd hb | exact S6.row 2 rfl | exact S6.row 3 rfl) inferInstance (by omega)) rfl ?_
      refine ZB_yb rfl (y_ldb Try.underlying5 rfl rfl (by first | exact S6.rd hb | exact S6.row 2 rfl | exact S6.row 3 rfl) (by omega)) rfl fun _ _ => ?_
      refine ZB_y rfl (y_conv is5 Try.underlying34 rfl (u32w (by omega))) rfl ?_
      refine ZB_y rfl (y_add rfl rfl (wordR _ _)) rfl ?_
      refine ZB_o rfl (o_bslL [_] te48 zz34 S6 rfl rfl rfl rfl rfl rfl rfl rfl fun b7 w7 l7 S7 => ?_)
      have q7 := l7
      refine ⟨q7, ?_⟩
      refine ZB_c rfl (o_app te48 S7 3 rfl rfl rfl (by first | exact S7.rd hb | exact S7.row 2 rfl | exact S7.row 3 rfl | exact S7.row 4 rfl) (by first | exact uL_one _ | exact bL_one _ | exact iL_one _ | (intro u hu; simp at hu; subst hu; rfl) | (simp; done) | (simp [Value.oneCell']; done)) rfl (by omega) (by omega) fun A8 c8 w8 S8 => ?_)
      have S8d := S8.drop (rs' := [_, _, _, _]) (.cons_cons _ (.cons_cons _ (.cons_cons _ (.cons_cons _ (.cons _ (.refl _))))))
      refine ZA_oy rfl (y_assign rfl) rfl ?_
      refine ZA_nil ?_
      refine hK8 _ _ ?_
      refine T_region ?_
      refine L_y (y_move rfl) rfl ?_
      refine L_y (y_add rfl rfl (i64w (by omega))) rfl ?_
      refine L_y (y_assign rfl) rfl ?_
      refine L_nil ?_
      have S9 := S8d.rowc 3 rfl (n' := k + 1) (xs' := uL (sched b (k + 1))) rfl (by simp [sched, uL, uV, hlt])
      refine ⟨k + 1, _, _, by omega, ⟨by omega, S9⟩, ?_⟩
      exact (Sub.cons rfl (by first | rfl | exact congrArg (Value.int _) (by omega)) (Sub.cons rfl (by first | rfl | exact congrArg (Value.int _) (by omega)) (Sub.cons rfl rfl (Sub.cons rfl rfl (Sub.cons rfl rfl (Sub.cons rfl rfl (Sub.nil _)))))))
    ·
      obtain rfl : k = 16 := by omega
      refine T_exit ?_
      refine hK4 _ _ ?_
      refine T_seq fun K9 hK9 => ?_
      refine T_seq fun K10 hK10 => ?_
      refine T_region ?_
      refine L_y (y_assign rfl) rfl ?_
      refine L_nil ?_
      refine hK10 _ _ ?_
      refine T_block ?_
      refine T_loop3 [(2, _), (4, _), (5, _)] (fun (k : Nat) (A : Option Addr) (c : Nat) => [(6, .slice A k c), (8, .int .i64 (k : Int))]) (fun (k : Nat) (A : Option Addr) (c : Nat) => 64 - k) (fun (k : Nat) (A : Option Addr) (c : Nat) (w : World) => 16 ≤ k ∧ k ≤ 64 ∧ Zx.St w0 noM [blk b1 35 (uA v.list), blk b2 35 (uA z8), row 34 1 A3 64 c3 (uL kL), row 34 1 A k c (uL (sched b k))] w) 16 A c (Sub.cons rfl (by first | rfl | exact congrArg (Value.int _) (by omega)) (Sub.cons rfl (by first | rfl | exact congrArg (Value.int _) (by omega)) (Sub.nil _))) (Sub.cons rfl rfl (Sub.cons rfl rfl (Sub.cons rfl rfl (Sub.nil _)))) ?_ ?_
      ·
        exact ⟨by omega, by omega, S5⟩
      ·
        intro k A c w9 hrel
        obtain ⟨hk1, hk2, S9⟩ := hrel
        refine T_seq fun K11 hK11 => ?_
        refine T_seq fun K12 hK12 => ?_
        refine T_region ?_
        refine L_y (y_move rfl) rfl ?_
        refine L_y (y_lss rfl rfl) rfl ?_
        refine L_nil ?_
        refine hK12 _ _ ?_
        refine T_cond rfl (fun h66 => ?_) (fun h66 => ?_)
        ·
          have hlt : k < 64 := by omega
          have hge : ¬ k < 16 := by omega
          refine T_skip ?_
          refine hK11 _ _ ?_
          refine T_seq fun K13 hK13 => ?_
          refine T_block ?_
          refine T_seq fun K14 hK14 => ?_
          refine T_region ?_
          refine L_y (y_move rfl) rfl ?_
          refine L_y (y_move rfl) rfl ?_
          refine L_y (y_sub rfl rfl (i64w (by omega))) rfl ?_
          refine L_y (y_idx Try.underlying48 sz34 rfl rfl (by first | exact S9.rd hb | exact S9.row 2 rfl | exact S9.row 3 rfl) (Nt.mk (by omega) : Nt _ (k - 15)) (by omega)) rfl ?_
          refine L_y (y_ldg (0 : UInt32) Try.underlying34 rfl rfl (by first | exact S9.rd hb | exact S9.row 2 rfl | exact S9.row 3 rfl) (by omega)) rfl ?_
          refine L_y (y_assign rfl) rfl ?_
          refine L_nil ?_
          refine hK14 _ _ ?_
          refine T_seq fun K15 hK15 => ?_
          refine T_region ?_
          refine L_y (y_move rfl) rfl ?_
          refine L_y (y_move rfl) rfl ?_
          refine L_y (y_sub rfl rfl (i64w (by omega))) rfl ?_
          refine L_y (y_idx Try.underlying48 sz34 rfl rfl (by first | exact S9.rd hb | exact S9.row 2 rfl | exact S9.row 3 rfl) (Nt.mk (by omega) : Nt _ (k - 2)) (by omega)) rfl ?_
          refine L_y (y_ldg (0 : UInt32) Try.underlying34 rfl rfl (by first | exact S9.rd hb | exact S9.row 2 rfl | exact S9.row 3 rfl) (by omega)) rfl ?_
          refine L_y (y_assign rfl) rfl ?_
          refine L_nil ?_
          refine hK15 _ _ ?_
          refine T_seq fun K16 hK16 => ?_
          refine T_region ?_
          refine L_y (y_move rfl) rfl ?_
          refine L_o (o_call Try.func23 rfl rfl (pureC (right7 _ _)) rfl rfl ?_)
          rintro e10 w10 ⟨v10, rfl, l10, rfl⟩
          refine ⟨_, rfl, ?_⟩
          have S10 := S9.like l10
          refine L_y (y_move rfl) rfl ?_
          refine L_o (o_call Try.func23 rfl rfl (pureC (right18 _ _)) rfl rfl ?_)
          rintro e11 w11 ⟨v11, rfl, l11, rfl⟩
          refine ⟨_, rfl, ?_⟩
          have S11 := S10.like l11
          refine L_y (y_bits rfl rfl rfl (xorN _ _)) rfl ?_
          refine L_y (y_move rfl) rfl ?_
          refine L_y (y_shr rfl rfl (by omega) (shr3F _)) rfl ?_
          refine L_y (y_bits rfl rfl rfl (xorN _ _)) rfl ?_
          refine L_y (y_assign rfl) rfl ?_
          refine L_nil ?_
          refine hK16 _ _ ?_
          refine T_seq fun K17 hK17 => ?_
          refine T_region ?_
          refine L_y (y_move rfl) rfl ?_
          refine L_o (o_call Try.func23 rfl rfl (pureC (right17 _ _)) rfl rfl ?_)
          rintro e12 w12 ⟨v12, rfl, l12, rfl⟩
          refine ⟨_, rfl, ?_⟩
          have S12 := S11.like l12
          refine L_y (y_move rfl) rfl ?_
          refine L_o (o_call Try.func23 rfl rfl (pureC (right19 _ _)) rfl rfl ?_)
          rintro e13 w13 ⟨v13, rfl, l13, rfl⟩
          refine ⟨_, rfl, ?_⟩
          have S13 := S12.like l13
          refine L_y (y_bits rfl rfl rfl (xorN _ _)) rfl ?_
          refine L_y (y_move rfl) rfl ?_
          refine L_y (y_shr rfl rfl (by omega) (shr10F _)) rfl ?_
          refine L_y (y_bits rfl rfl rfl (xorN _ _)) rfl ?_
          refine L_y (y_assign rfl) rfl ?_
          refine L_nil ?_
          refine hK17 _ _ ?_
          refine T_zed [0, 1, 2, 3, 4, 5, 6, 7, 8, 9, 10, 11, 12, 13, 14, 15, 16] 17 [(0, 1), (1, 1), (2, 1), (3, 1), (4, 1), (5, 1), (6, 1), (7, 1), (8, 1), (9, 1), (10, 1), (11, 1), (12, 1), (13, 1), (14, 1), (15, 1), (16, 2), (17, 3), (18, 3)] hmix (by kernel_rfl) fun w14 l14 => ?_
          have S14 := S13.like l14
          refine ZA_B (Like w14) (Like.refl _) ?_
          refine ZB_y rfl (y_move rfl) rfl ?_
          refine ZB_y rfl (y_move rfl) rfl ?_
          refine ZB_y rfl (y_move rfl) rfl ?_
          refine ZB_y rfl (y_sub rfl rfl (i64w (by omega))) rfl ?_
          refine ZB_y rfl (y_idx Try.underlying48 sz34 rfl rfl (by first | exact S14.rd hb | exact S14.row 2 rfl | exact S14.row 3 rfl) (Nt.mk (by omega) : Nt _ (k - 16)) (by omega)) rfl ?_
          refine ZB_y rfl (y_ldg (0 : UInt32) Try.underlying34 rfl rfl (by first | exact S14.rd hb | exact S14.row 2 rfl | exact S14.row 3 rfl) (by omega)) rfl ?_
          refine ZB_y rfl (y_move rfl) rfl ?_
          refine ZB_y rfl (y_add rfl rfl (addW _ _)) rfl ?_
          refine ZB_y rfl (y_move rfl) rfl ?_
          refine ZB_y rfl (y_move rfl) rfl ?_
          refine ZB_y rfl (y_sub rfl rfl (i64w (by omega))) rfl ?_
          refine ZB_y rfl (y_idx Try.underlying48 sz34 rfl rfl (by first | exact S14.rd hb | exact S14.row 2 rfl | exact S14.row 3 rfl) (Nt.mk (by omega) : Nt _ (k - 7)) (by omega)) rfl ?_
          refine ZB_y rfl (y_ldg (0 : UInt32) Try.underlying34 rfl rfl (by first | exact S14.rd hb | exact S14.row 2 rfl | exact S14.row 3 rfl) (by omega)) rfl ?_
          refine ZB_y rfl (y_add rfl rfl (addW _ _)) rfl ?_
          refine ZB_y rfl (y_move rfl) rfl ?_
          refine ZB_y rfl (y_add rfl rfl (addW _ _)) rfl ?_
          refine ZB_o rfl (o_bslL [_] te48 zz34 S14 rfl rfl rfl rfl rfl rfl rfl rfl fun b15 w15 l15 S15 => ?_)
          have q15 := l15
          refine ⟨q15, ?_⟩
          refine ZB_c rfl (o_app te48 S15 3 rfl rfl rfl (by first | exact S15.rd hb | exact S15.row 2 rfl | exact S15.row 3 rfl | exact S15.row 4 rfl) (by first | exact uL_one _ | exact bL_one _ | exact iL_one _ | (intro u hu; simp at hu; subst hu; rfl) | (simp; done) | (simp [Value.oneCell']; done)) rfl (by omega) (by omega) fun A16 c16 w16 S16 => ?_)
          have S16d := S16.drop (rs' := [_, _, _, _]) (.cons_cons _ (.cons_cons _ (.cons_cons _ (.cons_cons _ (.cons _ (.refl _))))))
          refine ZA_oy rfl (y_assign rfl) rfl ?_
          refine ZA_nil ?_
          refine hK13 _ _ ?_
          refine T_region ?_
          refine L_y (y_move rfl) rfl ?_
          refine L_y (y_add rfl rfl (i64w (by omega))) rfl ?_
          refine L_y (y_assign rfl) rfl ?_
          refine L_nil ?_
          have S9 := S16d.rowc 3 rfl (n' := k + 1) (xs' := uL (sched b (k + 1))) rfl (by simp only [sched, if_neg hge]; rw [uL_app]; rfl)
          refine ⟨k + 1, _, _, by omega, ⟨by omega, by omega, S9⟩, ?_⟩
          exact (Sub.cons rfl (by first | rfl | exact congrArg (Value.int _) (by omega)) (Sub.cons rfl (by first | rfl | exact congrArg (Value.int _) (by omega)) (Sub.cons rfl rfl (Sub.cons rfl rfl (Sub.cons rfl rfl (Sub.nil _))))))
        ·
          obtain rfl : k = 64 := by omega
          refine T_exit ?_
          refine hK9 _ _ ?_
          refine T_seq fun K18 hK18 => ?_
          refine T_drawnL [(0, true), (1, true), (2, true), (3, true), (4, true), (5, true), (6, true), (7, true), (8, true), (9, true), (10, true), (11, true), (12, true), (13, true), (14, true), (15, true), (16, true), (17, true), (18, true), (19, true), (20, true), (21, true), (22, true), (23, true)] hmix (by kernel_rfl) fun w17 l17 => ?_
          have S17 := S9.like l17
          refine DL_y rfl (y_idxA0 Try.underlying35 sz34 rfl rfl inferInstance (by omega)) rfl ?_
          refine DL_y rfl (y_ldc Try.underlying34 rfl rfl (((S17.blk 0 rfl).cell _).trans (show _ = some (uV v.a) from rfl))) rfl ?_
          refine DL_y rfl (y_idxA0 Try.underlying35 sz34 rfl rfl inferInstance (by omega)) rfl ?_
          refine DL_y rfl (y_ldc Try.underlying34 rfl rfl (((S17.blk 0 rfl).cell _).trans (show _ = some (uV v.b) from rfl))) rfl ?_
          refine DL_y rfl (y_idxA0 Try.underlying35 sz34 rfl rfl inferInstance (by omega)) rfl ?_
          refine DL_y rfl (y_ldc Try.underlying34 rfl rfl (((S17.blk 0 rfl).cell _).trans (show _ = some (uV v.c) from rfl))) rfl ?_
          refine DL_y rfl (y_idxA0 Try.underlying35 sz34 rfl rfl inferInstance (by omega)) rfl ?_
          refine DL_y rfl (y_ldc Try.underlying34 rfl rfl (((S17.blk 0 rfl).cell _).trans (show _ = some (uV v.d) from rfl))) rfl ?_
          refine DL_y rfl (y_idxA0 Try.underlying35 sz34 rfl rfl inferInstance (by omega)) rfl ?_
          refine DL_y rfl (y_ldc Try.underlying34 rfl rfl (((S17.blk 0 rfl).cell _).trans (show _ = some (uV v.e) from rfl))) rfl ?_
          refine DL_y rfl (y_idxA0 Try.underlying35 sz34 rfl rfl inferInstance (by omega)) rfl ?_
          refine DL_y rfl (y_ldc Try.underlying34 rfl rfl (((S17.blk 0 rfl).cell _).trans (show _ = some (uV v.f) from rfl))) rfl ?_
          refine DL_y rfl (y_idxA0 Try.underlying35 sz34 rfl rfl inferInstance (by omega)) rfl ?_
          refine DL_y rfl (y_ldc Try.underlying34 rfl rfl (((S17.blk 0 rfl).cell _).trans (show _ = some (uV v.g) from rfl))) rfl ?_
          refine DL_y rfl (y_idxA0 Try.underlying35 sz34 rfl rfl inferInstance (by omega)) rfl ?_
          refine DL_y rfl (y_ldc Try.underlying34 rfl rfl (((S17.blk 0 rfl).cell _).trans (show _ = some (uV v.h) from rfl))) rfl ?_
          refine DL_y rfl (y_assign rfl) rfl ?_
          refine DL_y rfl (y_assign rfl) rfl ?_
          refine DL_y rfl (y_assign rfl) rfl ?_
          refine DL_y rfl (y_assign rfl) rfl ?_
          refine DL_y rfl (y_assign rfl) rfl ?_
          refine DL_y rfl (y_assign rfl) rfl ?_
          refine DL_y rfl (y_assign rfl) rfl ?_
          refine DL_y rfl (y_assign rfl) rfl ?_
          refine DL_nil ?_
          refine hK18 _ _ ?_
          refine T_seq fun K19 hK19 => ?_
          refine T_seq fun K20 hK20 => ?_
          refine T_region ?_
          refine L_y (y_assign rfl) rfl ?_
          refine L_nil ?_
          refine hK20 _ _ ?_
          refine T_block ?_
          refine T_loop1 [(2, _), (4, _), (5, _), (6, _)] (fun (t : Nat) => [(13, .int .u32 (N (rounds (sched b 64) v t).a)), (14, .int .u32 (N (rounds (sched b 64) v t).b)), (15, .int .u32 (N (rounds (sched b 64) v t).c)), (16, .int .u32 (N (rounds (sched b 64) v t).d)), (17, .int .u32 (N (rounds (sched b 64) v t).e)), (18, .int .u32 (N (rounds (sched b 64) v t).f)), (19, .int .u32 (N (rounds (sched b 64) v t).g)), (20, .int .u32 (N (rounds (sched b 64) v t).h)), (21, .int .i64 (t : Int))]) (fun (t : Nat) => 64 - t) (fun (t : Nat) (w : World) => t ≤ 64 ∧ Zx.St w0 noM [blk b1 35 (uA v.list), blk b2 35 (uA z8), row 34 1 A3 64 c3 (uL kL), row 34 1 A 64 c (uL (sched b 64))] w) 0 (Sub.cons rfl (by first | rfl | exact congrArg (Value.int _) (by omega)) (Sub.cons rfl (by first | rfl | exact congrArg (Value.int _) (by omega)) (Sub.cons rfl (by first | rfl | exact congrArg (Value.int _) (by omega)) (Sub.cons rfl (by first | rfl | exact congrArg (Value.int _) (by omega)) (Sub.cons rfl (by first | rfl | exact congrArg (Value.int _) (by omega)) (Sub.cons rfl (by first | rfl | exact congrArg (Value.int _) (by omega)) (Sub.cons rfl (by first | rfl | exact congrArg (Value.int _) (by omega)) (Sub.cons rfl (by first | rfl | exact congrArg (Value.int _) (by omega)) (Sub.cons rfl (by first | rfl | exact congrArg (Value.int _) (by omega)) (Sub.nil _)))))))))) (Sub.cons rfl rfl (Sub.cons rfl rfl (Sub.cons rfl rfl (Sub.cons rfl rfl (Sub.nil _))))) ?_ ?_
          ·
            exact ⟨by omega, S17⟩
          ·
            intro t w18 hrel
            obtain ⟨ht, S18⟩ := hrel
            refine T_seq fun K21 hK21 => ?_
            refine T_seq fun K22 hK22 => ?_
            refine T_region ?_
            refine L_y (y_move rfl) rfl ?_
            refine L_y (y_lss rfl rfl) rfl ?_
            refine L_nil ?_
            refine hK22 _ _ ?_
            refine T_cond rfl (fun h130 => ?_) (fun h130 => ?_)
            ·
              refine T_skip ?_
              refine hK21 _ _ ?_
              refine T_seq fun K23 hK23 => ?_
              refine T_block ?_
              refine T_seq fun K24 hK24 => ?_
              refine T_drawnL [(0, true), (1, true), (3, true), (6, true), (10, true), (11, true), (12, true), (13, true), (14, true), (15, true), (16, true), (17, true), (19, true), (20, true), (21, true), (22, true), (24, true), (25, true), (26, true), (27, true), (2, false), (4, false), (5, true), (7, false), (8, true), (9, true), (18, true), (23, true), (28, true), (29, true)] hmix (by kernel_rfl) fun w19 l19 => ?_
              have S19 := S18.like l19
              refine DL_y rfl (y_move rfl) rfl ?_
              refine DL_y rfl (y_move rfl) rfl ?_
              refine DL_y rfl (y_move rfl) rfl ?_
              refine DL_y rfl (y_move rfl) rfl ?_
              refine DL_y rfl (y_move rfl) rfl ?_
              refine DL_y rfl (y_move rfl) rfl ?_
              refine DL_y rfl (y_bits rfl rfl rfl (andN _ _)) rfl ?_
              refine DL_y rfl (y_move rfl) rfl ?_
              refine DL_y rfl (y_inv rfl (notN _)) rfl ?_
              refine DL_y rfl (y_move rfl) rfl ?_
              refine DL_y rfl (y_bits rfl rfl rfl (andN _ _)) rfl ?_
              refine DL_y rfl (y_bits rfl rfl rfl (xorN _ _)) rfl ?_
              refine DL_y rfl (y_move rfl) rfl ?_
              refine DL_y rfl (y_move rfl) rfl ?_
              refine DL_y rfl (y_idx Try.underlying48 sz34 rfl rfl (by first | exact S19.rd hb | exact S19.row 2 rfl | exact S19.row 3 rfl) inferInstance (by omega)) rfl ?_
              refine DL_y rfl (y_ldg (0 : UInt32) Try.underlying34 rfl rfl (by first | exact S19.rd hb | exact S19.row 2 rfl | exact S19.row 3 rfl) (by omega)) rfl ?_
              refine DL_y rfl (y_move rfl) rfl ?_
              refine DL_y rfl (y_move rfl) rfl ?_
              refine DL_y rfl (y_idx Try.underlying48 sz34 rfl rfl (by first | exact S19.rd hb | exact S19.row 2 rfl | exact S19.row 3 rfl) inferInstance (by omega)) rfl ?_
              refine DL_y rfl (y_ldg (0 : UInt32) Try.underlying34 rfl rfl (by first | exact S19.rd hb | exact S19.row 2 rfl | exact S19.row 3 rfl) (by omega)) rfl ?_
              refine DL_o rfl (o_call Try.func23 rfl rfl (pureC (right6 _ _)) rfl rfl ?_)
              rintro e20 w20 ⟨v20, rfl, l20, rfl⟩
              refine ⟨_, rfl, l20, ?_⟩
              have S20 := S19.like l20
              have q20 := l20
              refine DL_o rfl (o_call Try.func23 rfl rfl (pureC (right11 _ _)) rfl rfl ?_)
              rintro e21 w21 ⟨v21, rfl, l21, rfl⟩
              refine ⟨_, rfl, (Like.trans q20 l21), ?_⟩
              have S21 := S20.like l21
              have q21 := (Like.trans q20 l21)
              refine DL_y rfl (y_bits rfl rfl rfl (xorN _ _)) rfl ?_
              refine DL_o rfl (o_call Try.func23 rfl rfl (pureC (right25 _ _)) rfl rfl ?_)
              rintro e22 w22 ⟨v22, rfl, l22, rfl⟩
              refine ⟨_, rfl, (Like.trans q21 l22), ?_⟩
              have S22 := S21.like l22
              have q22 := (Like.trans q21 l22)
              refine DL_y rfl (y_bits rfl rfl rfl (xorN _ _)) rfl ?_
              refine DL_y rfl (y_add rfl rfl (addW _ _)) rfl ?_
              refine DL_y rfl (y_add rfl rfl (addW _ _)) rfl ?_
              refine DL_y rfl (y_add rfl rfl (addW _ _)) rfl ?_
              refine DL_y rfl (y_add rfl rfl (addW _ _)) rfl ?_
              refine DL_y rfl (y_assign rfl) rfl ?_
              refine DL_nil ?_
              refine hK24 _ _ ?_
              refine T_seq fun K25 hK25 => ?_
              refine T_region ?_
              refine L_y (y_move rfl) rfl ?_
              refine L_o (o_call Try.func23 rfl rfl (pureC (right2 _ _)) rfl rfl ?_)
              rintro e23 w23 ⟨v23, rfl, l23, rfl⟩
              refine ⟨_, rfl, ?_⟩
              have S23 := S22.like l23
              refine L_y (y_move rfl) rfl ?_
              refine L_o (o_call Try.func23 rfl rfl (pureC (right13 _ _)) rfl rfl ?_)
              rintro e24 w24 ⟨v24, rfl, l24, rfl⟩
              refine ⟨_, rfl, ?_⟩
              have S24 := S23.like l24
              refine L_y (y_bits rfl rfl rfl (xorN _ _)) rfl ?_
              refine L_y (y_move rfl) rfl ?_
              refine L_o (o_call Try.func23 rfl rfl (pureC (right22 _ _)) rfl rfl ?_)
              rintro e25 w25 ⟨v25, rfl, l25, rfl⟩
              refine ⟨_, rfl, ?_⟩
              have S25 := S24.like l25
              refine L_y (y_bits rfl rfl rfl (xorN _ _)) rfl ?_
              refine L_y (y_move rfl) rfl ?_
              refine L_y (y_move rfl) rfl ?_
              refine L_y (y_bits rfl rfl rfl (andN _ _)) rfl ?_
              refine L_y (y_move rfl) rfl ?_
              refine L_y (y_move rfl) rfl ?_
              refine L_y (y_bits rfl rfl rfl (andN _ _)) rfl ?_
              refine L_y (y_bits rfl rfl rfl (xorN _ _)) rfl ?_
              refine L_y (y_move rfl) rfl ?_
              refine L_y (y_move rfl) rfl ?_
              refine L_y (y_bits rfl rfl rfl (andN _ _)) rfl ?_
              refine L_y (y_bits rfl rfl rfl (xorN _ _)) rfl ?_
              refine L_y (y_add rfl rfl (addW _ _)) rfl ?_
              refine L_y (y_assign rfl) rfl ?_
              refine L_nil ?_
              refine hK25 _ _ ?_
              refine T_seq fun K26 hK26 => ?_
              refine T_region ?_
              refine L_y (y_move rfl) rfl ?_
              refine L_y (y_assign rfl) rfl ?_
              refine L_nil ?_
              refine hK26 _ _ ?_
              refine T_seq fun K27 hK27 => ?_
              refine T_region ?_
              refine L_y (y_move rfl) rfl ?_
              refine L_y (y_assign rfl) rfl ?_
              refine L_nil ?_
              refine hK27 _ _ ?_
              refine T_seq fun K28 hK28 => ?_
              refine T_region ?_
              refine L_y (y_move rfl) rfl ?_
              refine L_y (y_assign rfl) rfl ?_
              refine L_nil ?_
              refine hK28 _ _ ?_
              refine T_seq fun K29 hK29 => ?_
              refine T_region ?_
              refine L_y (y_move rfl) rfl ?_
              refine L_y (y_move rfl) rfl ?_
              refine L_y (y_add rfl rfl (addW _ _)) rfl ?_
              refine L_y (y_assign rfl) rfl ?_
              refine L_nil ?_
              refine hK29 _ _ ?_
              refine T_seq fun K30 hK30 => ?_
              refine T_region ?_
              refine L_y (y_move rfl) rfl ?_
              refine L_y (y_assign rfl) rfl ?_
              refine L_nil ?_
              refine hK30 _ _ ?_
              refine T_seq fun K31 hK31 => ?_
              refine T_region ?_
              refine L_y (y_move rfl) rfl ?_
              refine L_y (y_assign rfl) rfl ?_
              refine L_nil ?_
              refine hK31 _ _ ?_
              refine T_seq fun K32 hK32 => ?_
              refine T_region ?_
              refine L_y (y_move rfl) rfl ?_
              refine L_y (y_assign rfl) rfl ?_
              refine L_nil ?_
              refine hK32 _ _ ?_
              refine T_region ?_
              refine L_y (y_move rfl) rfl ?_
              refine L_y (y_move rfl) rfl ?_
              refine L_y (y_add rfl rfl (addW _ _)) rfl ?_
              refine L_y (y_assign rfl) rfl ?_
              refine L_nil ?_
              refine hK23 _ _ ?_
              refine T_region ?_
              refine L_y (y_move rfl) rfl ?_
              refine L_y (y_add rfl rfl (i64w (by omega))) rfl ?_
              refine L_y (y_assign rfl) rfl ?_
              refine L_nil ?_
              refine ⟨t + 1, by omega, ⟨by omega, S25⟩, ?_⟩
              exact (Sub.cons rfl (by first | rfl | exact congrArg (Value.int _) (by omega)) (Sub.cons rfl (by first | rfl | exact congrArg (Value.int _) (by omega)) (Sub.cons rfl (by first | rfl | exact congrArg (Value.int _) (by omega)) (Sub.cons rfl (by first | rfl | exact congrArg (Value.int _) (by omega)) (Sub.cons rfl (by first | rfl | exact congrArg (Value.int _) (by omega)) (Sub.cons rfl (by first | rfl | exact congrArg (Value.int _) (by omega)) (Sub.cons rfl (by first | rfl | exact congrArg (Value.int _) (by omega)) (Sub.cons rfl (by first | rfl | exact congrArg (Value.int _) (by omega)) (Sub.cons rfl (by first | rfl | exact congrArg (Value.int _) (by omega)) (Sub.cons rfl rfl (Sub.cons rfl rfl (Sub.cons rfl rfl (Sub.cons rfl rfl (Sub.nil _))))))))))))))
            ·
              obtain rfl : t = 64 := by omega
              have hl := blockS_comm v b
              generalize hR : rounds (sched b 64) v 64 = R at hl ⊢
              generalize hSS : sched b 64 = SS at *
              refine T_exit ?_
              refine hK19 _ _ ?_
              refine T_seq fun K33 hK33 => ?_
              refine T_region ?_
              refine L_y (y_idxA0 Try.underlying35 sz34 rfl rfl inferInstance (by omega)) rfl ?_
              refine L_y (y_ldc Try.underlying34 rfl rfl (((S18.blk 0 rfl).cell _).trans (show _ = some (uV v.a) from rfl))) rfl ?_
              refine L_y (y_move rfl) rfl ?_
              refine L_y (y_add rfl rfl (addW _ _)) rfl ?_
              refine L_y (y_idxA0 Try.underlying35 sz34 rfl rfl inferInstance (by omega)) rfl ?_
              refine L_y (y_ldc Try.underlying34 rfl rfl (((S18.blk 0 rfl).cell _).trans (show _ = some (uV v.b) from rfl))) rfl ?_
              refine L_y (y_move rfl) rfl ?_
              refine L_y (y_add rfl rfl (addW _ _)) rfl ?_
              refine L_y (y_idxA0 Try.underlying35 sz34 rfl rfl inferInstance (by omega)) rfl ?_
              refine L_y (y_ldc Try.underlying34 rfl rfl (((S18.blk 0 rfl).cell _).trans (show _ = some (uV v.c) from rfl))) rfl ?_
              refine L_y (y_move rfl) rfl ?_
              refine L_y (y_add rfl rfl (addW _ _)) rfl ?_
              refine L_y (y_idxA0 Try.underlying35 sz34 rfl rfl inferInstance (by omega)) rfl ?_
              refine L_y (y_ldc Try.underlying34 rfl rfl (((S18.blk 0 rfl).cell _).trans (show _ = some (uV v.d) from rfl))) rfl ?_
              refine L_y (y_move rfl) rfl ?_
              refine L_y (y_add rfl rfl (addW _ _)) rfl ?_
              refine L_y (y_idxA0 Try.underlying35 sz34 rfl rfl inferInstance (by omega)) rfl ?_
              refine L_y (y_ldc Try.underlying34 rfl rfl (((S18.blk 0 rfl).cell _).trans (show _ = some (uV v.e) from rfl))) rfl ?_
              refine L_y (y_move rfl) rfl ?_
              refine L_y (y_add rfl rfl (addW _ _)) rfl ?_
              refine L_y (y_idxA0 Try.underlying35 sz34 rfl rfl inferInstance (by omega)) rfl ?_
              refine L_y (y_ldc Try.underlying34 rfl rfl (((S18.blk 0 rfl).cell _).trans (show _ = some (uV v.f) from rfl))) rfl ?_
              refine L_y (y_move rfl) rfl ?_
              refine L_y (y_add rfl rfl (addW _ _)) rfl ?_
              refine L_y (y_idxA0 Try.underlying35 sz34 rfl rfl inferInstance (by omega)) rfl ?_
              refine L_y (y_ldc Try.underlying34 rfl rfl (((S18.blk 0 rfl).cell _).trans (show _ = some (uV v.g) from rfl))) rfl ?_
              refine L_y (y_move rfl) rfl ?_
              refine L_y (y_add rfl rfl (addW _ _)) rfl ?_
              refine L_y (y_idxA0 Try.underlying35 sz34 rfl rfl inferInstance (by omega)) rfl ?_
              refine L_y (y_ldc Try.underlying34 rfl rfl (((S18.blk 0 rfl).cell _).trans (show _ = some (uV v.h) from rfl))) rfl ?_
              refine L_y (y_move rfl) rfl ?_
              refine L_y (y_add rfl rfl (addW _ _)) rfl ?_
              refine L_y (y_build (cs := uA [v.a + R.a, v.b + R.b, v.c + R.c, v.d + R.d, v.e + R.e, v.f + R.f, v.g + R.g, v.h + R.h]) rfl (by kernel_rfl)) rfl ?_
              refine L_o (o_stW S18 1 rfl rfl rfl sz35 (by simp [z8]) (by first | exact uL_one _ | exact bL_one _ | exact iL_one _ | (intro u hu; simp at hu; subst hu; rfl) | (simp; done) | (simp [Value.oneCell']; done)) fun w26 S26 => ?_)
              refine L_nil ?_
              refine hK33 _ _ ?_
              refine T_ret ?_
              repeat (first | with_reducible refine up_then ?_ | with_reducible refine up_in ?_)
              refine retc rfl rfl (S26.blk 1 rfl) Try.underlying35 rfl sz35 ?_
              exact ⟨_, rfl, S26.like0, by rw [hl]⟩
end Go.Proofs.Ytanelemeljbbcaa
