import Derived.Test.YtgaklngnfecdaaaGreatMgKNames6
import Derived.Test.YtgaklngnfecdaaaGreatMgKNames1
import Derived.Test.YtgaklngnfecdaaaGreatMgKNames4

/-
  A state and a block, by the code.
-/
namespace Go.Proofs.YtgaklngnfecdaaaGreat.Sha
open Go.RowKit Zk Zx
set_option linter.unusedVariables false
set_option linter.unusedSimpArgs false

theorem uA_one (l : List UInt32) : ∀ u ∈ (uA l).toList, u.oneCell' = true := uL_one l
theorem list_8 (u : Go.Proofs.YtgaklngnfecdaaaGreat.Sha.St) : u.list.length = 8 := by simp [Go.Proofs.YtgaklngnfecdaaaGreat.Sha.St.list]
theorem list_len (u v : Go.Proofs.YtgaklngnfecdaaaGreat.Sha.St) : u.list.length = v.list.length := by rw [list_8, list_8]
/-- The first i sums, then the rest as it was. -/
def addU (x y : List UInt32) (i : Nat) : List UInt32 := (List.zipWith (· + ·) x y).take i ++ x.drop i
theorem length_addU (x y : List UInt32) (h : x.length = y.length) (i : Nat) : (addU x y i).length = x.length := by
  simp [addU]; omega
theorem addU_get (x y : List UInt32) (i : Nat) (h : i < x.length) (hxy : x.length = y.length) : (uA (addU x y i))[i]? = some (uV (x.getD i 0)) := by
  rw [uA_get' _ _ (by rw [length_addU _ _ hxy]; exact h)]
  congr 2
  simp only [List.getD_eq_getElem?_getD, addU]
  rw [List.getElem?_append_right (by simp; omega)]
  have e : i - ((List.zipWith (· + ·) x y).take i).length = 0 := by simp; omega
  rw [e, List.getElem?_drop, Nat.add_zero]
theorem addU_set (x y : List UInt32) (i : Nat) (hxy : x.length = y.length) (h : i < x.length) : (uA (addU x y i)).setIfInBounds i (.int .u32 (N (x.getD i 0 + y.getD i 0))) = uA (addU x y (i + 1)) := by
  rw [uA_set]
  congr 1
  unfold addU
  rw [List.set_append_right _ _ (by simp; omega)]
  have e : i - ((List.zipWith (· + ·) x y).take i).length = 0 := by simp; omega
  rw [e, List.drop_eq_getElem_cons h, List.set_cons_zero, List.take_succ_eq_append_getElem (by simp; omega)]
  simp [List.getD_eq_getElem?_getD, List.getElem?_eq_getElem h, List.getElem?_eq_getElem (show i < y.length by omega)]
theorem blockS_list (v : Go.Proofs.YtgaklngnfecdaaaGreat.Sha.St) (b : List UInt8) : addU (rounds (sched b 64) v 64).list v.list 8 = (blockS v b).list := rfl


set_option maxRecDepth 100000 in
set_option maxHeartbeats 2000000 in
theorem mix (v : Go.Proofs.YtgaklngnfecdaaaGreat.Sha.St) (b : List UInt8) (B : Option Addr) (n cb : Nat) (hn : n = 64) (w0 : World) (hb : Rs w0 1 B n cb (bL b)) :
    Calls Tryz.prog 118 #[.agg (uA v.list), .slice B n cb] w0 fun e w' => ∃ u, e = .returned u ∧ Like w0 w' ∧ u = .agg (uA (blockS v b).list) := by
  refine enter1 (env := [(0, .agg (uA v.list)), (1, .slice B n cb)]) [.agg (uA v.list), .slice B n cb] Tryz.func118 rfl Tryz.ntmps118 rfl rfl ?_
  have S0 := St.start w0 noM
  refine T_seq fun K1 hK1 => ?_
  refine T_region ?_
  refine L_o (o_box rfl S0 rfl fun b1 w1 hb1 S1 => ?_)
  refine L_o (o_alloc zz103 S1 rfl fun b2 w2 hb2 S2 => ?_)
  refine L_nil ?_
  refine hK1 _ _ ?_
  refine T_seq fun K2 hK2 => ?_
  refine T_region ?_
  refine L_o (o_call Tryz.func158 rfl rfl (belowC (constants_any _)) rfl rfl ?_)
  rintro e3 w3 ⟨v3, rfl, l3, rfl⟩
  refine ⟨_, rfl, ?_⟩
  have S3 := S2.like l3
  refine L_o (o_alloc zz244 S3 rfl fun b4 w4 hb4 S4 => ?_)
  refine L_o (o_stW S4 2 rfl rfl rfl (by rw [size_uA, show kL.length = 64 from rfl]; exact sz244) (by rw [size_uA, show kL.length = 64 from rfl]; simp [Value.cells]) (by first | exact uA_one _ | exact uL_one _ | exact bL_one _ | exact iL_one _ | (intro u hu; simp at hu; subst hu; rfl) | (simp; done) | (simp [Value.oneCell']; done)) fun w5 S5 => ?_)
  refine L_nil ?_
  refine hK2 _ _ ?_
  refine T_seq fun K3 hK3 => ?_
  refine T_region ?_
  refine L_y (y_move rfl) rfl ?_
  refine L_o (o_call Tryz.func159 rfl rfl (spread b B n cb hn _ (S5.rd hb)) rfl rfl ?_)
  rintro e6 w6 ⟨v6, rfl, l6, rfl⟩
  refine ⟨_, rfl, ?_⟩
  have S6 := S5.like l6
  have hSl : (sched b 64).length = 64 := length_sched b 64
  have hl0 := blockS_list v b
  generalize hSS : sched b 64 = SS at hSl hl0 ⊢
  refine L_o (o_alloc zz244 S6 rfl fun b7 w7 hb7 S7 => ?_)
  refine L_o (o_stW S7 3 rfl rfl rfl (by rw [size_uA, hSl]; exact sz244) (by rw [size_uA, hSl]; simp [Value.cells]) (by first | exact uA_one _ | exact uL_one _ | exact bL_one _ | exact iL_one _ | (intro u hu; simp at hu; subst hu; rfl) | (simp; done) | (simp [Value.oneCell']; done)) fun w8 S8 => ?_)
  refine L_nil ?_
  refine hK3 _ _ ?_
  refine T_seq fun K4 hK4 => ?_
  refine T_region ?_
  refine L_y (y_ldW Tryz.underlying103 rfl sz103 rfl (S8.blk 0 rfl) ⟨(rfl : _ = uL v.list), rfl⟩) rfl ?_
  refine L_o (o_alloc zz103 S8 rfl fun b9 w9 hb9 S9 => ?_)
  refine L_o (o_stW S9 4 rfl rfl rfl (by exact sz103) (by simp [Go.Proofs.YtgaklngnfecdaaaGreat.Sha.St.list, Value.cells]) (uL_one _) fun w10 S10 => ?_)
  refine L_nil ?_
  refine hK4 _ _ ?_
  refine T_seq fun K5 hK5 => ?_
  refine T_seq fun K6 hK6 => ?_
  refine T_region ?_
  refine L_y (y_move rfl) rfl ?_
  refine L_nil ?_
  refine hK6 _ _ ?_
  refine T_block ?_
  refine T_loop1 [(2, _), (4, _), (5, _), (6, _), (7, _)] (fun (t : Nat) => [(18, .int .i64 (t : Int))]) (fun (t : Nat) => 64 - t) (fun (t : Nat) (w : World) => t ≤ 64 ∧ Zx.St w0 noM [blk b1 103 (uA v.list), blk b2 103 (uA z8), blk b4 244 (uA kL), blk b7 244 (uA SS), blk b9 103 (uA (rounds SS v t).list)] w) 0 (Sub.cons rfl (by first | rfl | exact congrArg (Value.int _) (by omega)) (Sub.nil _)) (Sub.cons rfl rfl (Sub.cons rfl rfl (Sub.cons rfl rfl (Sub.cons rfl rfl (Sub.cons rfl rfl (Sub.nil _)))))) ?_ ?_
  ·
    exact ⟨by omega, S10⟩
  ·
    intro t w11 hrel
    obtain ⟨ht, S11⟩ := hrel
    refine T_seq fun K7 hK7 => ?_
    refine T_region ?_
    refine L_y (y_lss rfl rfl) rfl ?_
    refine L_nil ?_
    refine hK7 _ _ ?_
    refine T_seq fun K8 hK8 => ?_
    refine T_cond rfl (fun h19 => ?_) (fun h19 => ?_)
    ·
      refine T_skip ?_
      refine hK8 _ _ ?_
      refine T_seq fun K9 hK9 => ?_
      refine T_block ?_
      refine T_seq fun K10 hK10 => ?_
      refine T_region ?_
      refine L_y (y_move rfl) rfl ?_
      refine L_y (y_assign rfl) rfl ?_
      refine L_nil ?_
      refine hK10 _ _ ?_
      refine T_seq fun K11 hK11 => ?_
      refine T_drawnL [(0, true), (1, true), (2, true), (3, true), (4, true), (5, true)] hmix (by kernel_rfl) fun w12 l12 => ?_
      have S12 := S11.like l12
      refine DL_y rfl (y_idxA0 Tryz.underlying103 sz63 rfl rfl inferInstance (by omega)) rfl ?_
      refine DL_y rfl (y_ldc Tryz.underlying63 rfl rfl (((S12.blk 4 rfl).cell _).trans (show _ = some (uV (rounds SS v t).e) from rfl))) rfl ?_
      refine DL_y rfl (y_idxA0 Tryz.underlying103 sz63 rfl rfl inferInstance (by omega)) rfl ?_
      refine DL_y rfl (y_ldc Tryz.underlying63 rfl rfl (((S12.blk 4 rfl).cell _).trans (show _ = some (uV (rounds SS v t).a) from rfl))) rfl ?_
      refine DL_y rfl (y_assign rfl) rfl ?_
      refine DL_y rfl (y_assign rfl) rfl ?_
      refine DL_nil ?_
      refine hK11 _ _ ?_
      refine T_seq fun K12 hK12 => ?_
      refine T_drawnL [(0, true), (1, true), (2, true), (4, true), (7, true), (11, true), (12, true), (13, true), (14, true), (15, true), (16, true), (17, true), (18, true), (19, true), (20, true), (22, true), (23, true), (24, true), (26, true), (27, true), (28, true), (3, false), (5, false), (6, true), (8, false), (9, true), (10, true), (21, true), (25, true), (29, true), (30, true)] hmix (by kernel_rfl) fun w13 l13 => ?_
      have S13 := S12.like l13
      refine DL_y rfl (y_idxA0 Tryz.underlying103 sz63 rfl rfl inferInstance (by omega)) rfl ?_
      refine DL_y rfl (y_ldc Tryz.underlying63 rfl rfl (((S13.blk 4 rfl).cell _).trans (show _ = some (uV (rounds SS v t).h) from rfl))) rfl ?_
      refine DL_y rfl (y_move rfl) rfl ?_
      refine DL_y rfl (y_move rfl) rfl ?_
      refine DL_y rfl (y_move rfl) rfl ?_
      refine DL_y rfl (y_move rfl) rfl ?_
      refine DL_y rfl (y_idxA0 Tryz.underlying103 sz63 rfl rfl inferInstance (by omega)) rfl ?_
      refine DL_y rfl (y_ldc Tryz.underlying63 rfl rfl (((S13.blk 4 rfl).cell _).trans (show _ = some (uV (rounds SS v t).f) from rfl))) rfl ?_
      refine DL_y rfl (y_bits rfl rfl rfl (andN _ _)) rfl ?_
      refine DL_y rfl (y_move rfl) rfl ?_
      refine DL_y rfl (y_inv rfl (notN _)) rfl ?_
      refine DL_y rfl (y_idxA0 Tryz.underlying103 sz63 rfl rfl inferInstance (by omega)) rfl ?_
      refine DL_y rfl (y_ldc Tryz.underlying63 rfl rfl (((S13.blk 4 rfl).cell _).trans (show _ = some (uV (rounds SS v t).g) from rfl))) rfl ?_
      refine DL_y rfl (y_bits rfl rfl rfl (andN _ _)) rfl ?_
      refine DL_y rfl (y_bits rfl rfl rfl (xorN _ _)) rfl ?_
      refine DL_y rfl (y_move rfl) rfl ?_
      refine DL_y rfl (y_idxA0 Tryz.underlying244 sz63 rfl rfl inferInstance (by omega)) rfl ?_
      refine DL_y rfl (y_ldc Tryz.underlying63 rfl rfl (((S13.blk 2 rfl).cell _).trans (uA_get' _ _ (by show t < 64; omega)))) rfl ?_
      refine DL_y rfl (y_move rfl) rfl ?_
      refine DL_y rfl (y_idxA0 Tryz.underlying244 sz63 rfl rfl inferInstance (by omega)) rfl ?_
      refine DL_y rfl (y_ldc Tryz.underlying63 rfl rfl (((S13.blk 3 rfl).cell _).trans (uA_get' _ _ (by rw [hSl]; omega)))) rfl ?_
      refine DL_o rfl (o_call Tryz.func160 rfl rfl (pureC (rotl6 _ _)) rfl rfl ?_)
      rintro e14 w14 ⟨v14, rfl, l14, rfl⟩
      refine ⟨_, rfl, l14, ?_⟩
      have S14 := S13.like l14
      have q14 := l14
      refine DL_o rfl (o_call Tryz.func160 rfl rfl (pureC (rotl11 _ _)) rfl rfl ?_)
      rintro e15 w15 ⟨v15, rfl, l15, rfl⟩
      refine ⟨_, rfl, (Like.trans q14 l15), ?_⟩
      have S15 := S14.like l15
      have q15 := (Like.trans q14 l15)
      refine DL_y rfl (y_bits rfl rfl rfl (xorN _ _)) rfl ?_
      refine DL_o rfl (o_call Tryz.func160 rfl rfl (pureC (rotl25 _ _)) rfl rfl ?_)
      rintro e16 w16 ⟨v16, rfl, l16, rfl⟩
      refine ⟨_, rfl, (Like.trans q15 l16), ?_⟩
      have S16 := S15.like l16
      have q16 := (Like.trans q15 l16)
      refine DL_y rfl (y_bits rfl rfl rfl (xorN _ _)) rfl ?_
      refine DL_y rfl (y_add rfl rfl (addW _ _)) rfl ?_
      refine DL_y rfl (y_add rfl rfl (addW _ _)) rfl ?_
      refine DL_y rfl (y_add rfl rfl (addW _ _)) rfl ?_
      refine DL_y rfl (y_add rfl rfl (addW _ _)) rfl ?_
      refine DL_y rfl (y_assign rfl) rfl ?_
      refine DL_nil ?_
      refine hK12 _ _ ?_
      refine T_seq fun K13 hK13 => ?_
      refine T_drawnL [(0, true), (2, true), (5, true), (8, true), (9, true), (10, true), (11, true), (12, true), (13, true), (14, true), (15, true), (16, true), (17, true), (18, true), (19, true), (20, true), (21, true), (22, true), (1, false), (3, false), (4, true), (6, false), (7, true), (23, true), (24, true)] hmix (by kernel_rfl) fun w17 l17 => ?_
      have S17 := S16.like l17
      refine DL_y rfl (y_move rfl) rfl ?_
      refine DL_y rfl (y_move rfl) rfl ?_
      refine DL_y rfl (y_move rfl) rfl ?_
      refine DL_y rfl (y_move rfl) rfl ?_
      refine DL_y rfl (y_idxA0 Tryz.underlying103 sz63 rfl rfl inferInstance (by omega)) rfl ?_
      refine DL_y rfl (y_ldc Tryz.underlying63 rfl rfl (((S17.blk 4 rfl).cell _).trans (show _ = some (uV (rounds SS v t).b) from rfl))) rfl ?_
      refine DL_y rfl (y_bits rfl rfl rfl (andN _ _)) rfl ?_
      refine DL_y rfl (y_move rfl) rfl ?_
      refine DL_y rfl (y_idxA0 Tryz.underlying103 sz63 rfl rfl inferInstance (by omega)) rfl ?_
      refine DL_y rfl (y_ldc Tryz.underlying63 rfl rfl (((S17.blk 4 rfl).cell _).trans (show _ = some (uV (rounds SS v t).c) from rfl))) rfl ?_
      refine DL_y rfl (y_bits rfl rfl rfl (andN _ _)) rfl ?_
      refine DL_y rfl (y_bits rfl rfl rfl (xorN _ _)) rfl ?_
      refine DL_y rfl (y_idxA0 Tryz.underlying103 sz63 rfl rfl inferInstance (by omega)) rfl ?_
      refine DL_y rfl (y_ldc Tryz.underlying63 rfl rfl (((S17.blk 4 rfl).cell _).trans (show _ = some (uV (rounds SS v t).b) from rfl))) rfl ?_
      refine DL_y rfl (y_idxA0 Tryz.underlying103 sz63 rfl rfl inferInstance (by omega)) rfl ?_
      refine DL_y rfl (y_ldc Tryz.underlying63 rfl rfl (((S17.blk 4 rfl).cell _).trans (show _ = some (uV (rounds SS v t).c) from rfl))) rfl ?_
      refine DL_y rfl (y_bits rfl rfl rfl (andN _ _)) rfl ?_
      refine DL_y rfl (y_bits rfl rfl rfl (xorN _ _)) rfl ?_
      refine DL_o rfl (o_call Tryz.func160 rfl rfl (pureC (rotl2 _ _)) rfl rfl ?_)
      rintro e18 w18 ⟨v18, rfl, l18, rfl⟩
      refine ⟨_, rfl, l18, ?_⟩
      have S18 := S17.like l18
      have q18 := l18
      refine DL_o rfl (o_call Tryz.func160 rfl rfl (pureC (rotl13 _ _)) rfl rfl ?_)
      rintro e19 w19 ⟨v19, rfl, l19, rfl⟩
      refine ⟨_, rfl, (Like.trans q18 l19), ?_⟩
      have S19 := S18.like l19
      have q19 := (Like.trans q18 l19)
      refine DL_y rfl (y_bits rfl rfl rfl (xorN _ _)) rfl ?_
      refine DL_o rfl (o_call Tryz.func160 rfl rfl (pureC (rotl22 _ _)) rfl rfl ?_)
      rintro e20 w20 ⟨v20, rfl, l20, rfl⟩
      refine ⟨_, rfl, (Like.trans q19 l20), ?_⟩
      have S20 := S19.like l20
      have q20 := (Like.trans q19 l20)
      refine DL_y rfl (y_bits rfl rfl rfl (xorN _ _)) rfl ?_
      refine DL_y rfl (y_add rfl rfl (addW _ _)) rfl ?_
      refine DL_y rfl (y_assign rfl) rfl ?_
      refine DL_nil ?_
      refine hK13 _ _ ?_
      refine T_region ?_
      refine L_y (y_move rfl) rfl ?_
      refine L_y (y_move rfl) rfl ?_
      refine L_y (y_add rfl rfl (addW _ _)) rfl ?_
      refine L_y (y_move rfl) rfl ?_
      refine L_y (y_idxA0 Tryz.underlying103 sz63 rfl rfl inferInstance (by omega)) rfl ?_
      refine L_y (y_ldc Tryz.underlying63 rfl rfl (((S20.blk 4 rfl).cell _).trans (show _ = some (uV (rounds SS v t).b) from rfl))) rfl ?_
      refine L_y (y_idxA0 Tryz.underlying103 sz63 rfl rfl inferInstance (by omega)) rfl ?_
      refine L_y (y_ldc Tryz.underlying63 rfl rfl (((S20.blk 4 rfl).cell _).trans (show _ = some (uV (rounds SS v t).c) from rfl))) rfl ?_
      refine L_y (y_idxA0 Tryz.underlying103 sz63 rfl rfl inferInstance (by omega)) rfl ?_
      refine L_y (y_ldc Tryz.underlying63 rfl rfl (((S20.blk 4 rfl).cell _).trans (show _ = some (uV (rounds SS v t).d) from rfl))) rfl ?_
      refine L_y (y_move rfl) rfl ?_
      refine L_y (y_add rfl rfl (addW _ _)) rfl ?_
      refine L_y (y_move rfl) rfl ?_
      refine L_y (y_idxA0 Tryz.underlying103 sz63 rfl rfl inferInstance (by omega)) rfl ?_
      refine L_y (y_ldc Tryz.underlying63 rfl rfl (((S20.blk 4 rfl).cell _).trans (show _ = some (uV (rounds SS v t).f) from rfl))) rfl ?_
      refine L_y (y_idxA0 Tryz.underlying103 sz63 rfl rfl inferInstance (by omega)) rfl ?_
      refine L_y (y_ldc Tryz.underlying63 rfl rfl (((S20.blk 4 rfl).cell _).trans (show _ = some (uV (rounds SS v t).g) from rfl))) rfl ?_
      refine L_y (y_build (cs := uA (rounds SS v (t + 1)).list) rfl (by kernel_rfl)) rfl ?_
      refine L_o (o_stW S20 4 rfl rfl rfl (by exact sz103) (by simp [Go.Proofs.YtgaklngnfecdaaaGreat.Sha.St.list, Value.cells]) (uL_one _) fun w21 S21 => ?_)
      refine L_nil ?_
      refine hK9 _ _ ?_
      refine T_region ?_
      refine L_y (y_add rfl rfl (i64w (by omega))) rfl ?_
      refine L_y (y_move rfl) rfl ?_
      refine L_nil ?_
      refine ⟨t + 1, by omega, ⟨by omega, S21⟩, ?_⟩
      exact (Sub.cons rfl (by first | rfl | exact congrArg (Value.int _) (by omega)) (Sub.cons rfl rfl (Sub.cons rfl rfl (Sub.cons rfl rfl (Sub.cons rfl rfl (Sub.cons rfl rfl (Sub.nil _)))))))
    ·
      obtain rfl : t = 64 := by omega
      generalize hR : rounds SS v 64 = R at hl0 S11 ⊢
      refine T_exit ?_
      refine hK5 _ _ ?_
      refine T_seq fun K14 hK14 => ?_
      refine T_seq fun K15 hK15 => ?_
      refine T_region ?_
      refine L_y (y_move rfl) rfl ?_
      refine L_nil ?_
      refine hK15 _ _ ?_
      refine T_block ?_
      refine T_loop1 [(2, _), (4, _), (7, _)] (fun (i : Nat) => [(98, .int .i64 (i : Int))]) (fun (i : Nat) => 8 - i) (fun (i : Nat) (w : World) => i ≤ 8 ∧ Zx.St w0 noM [blk b1 103 (uA v.list), blk b2 103 (uA z8), blk b4 244 (uA kL), blk b7 244 (uA SS), blk b9 103 (uA (addU R.list v.list i))] w) 0 (Sub.cons rfl (by first | rfl | exact congrArg (Value.int _) (by omega)) (Sub.nil _)) (Sub.cons rfl rfl (Sub.cons rfl rfl (Sub.cons rfl rfl (Sub.nil _)))) ?_ ?_
      ·
        exact ⟨by omega, S11⟩
      ·
        intro i w22 hrel
        obtain ⟨hi, S22⟩ := hrel
        refine T_seq fun K16 hK16 => ?_
        refine T_region ?_
        refine L_y (y_lss rfl rfl) rfl ?_
        refine L_nil ?_
        refine hK16 _ _ ?_
        refine T_seq fun K17 hK17 => ?_
        refine T_cond rfl (fun h99 => ?_) (fun h99 => ?_)
        ·
          refine T_skip ?_
          refine hK17 _ _ ?_
          refine T_seq fun K18 hK18 => ?_
          refine T_block ?_
          refine T_seq fun K19 hK19 => ?_
          refine T_region ?_
          refine L_y (y_move rfl) rfl ?_
          refine L_y (y_assign rfl) rfl ?_
          refine L_nil ?_
          refine hK19 _ _ ?_
          refine T_tail 8 hmix (by kernel_rfl) fun w23 l23 K20 hK20 => ?_
          have S23 := S22.like l23
          refine HL_y (y_move rfl) rfl ?_
          refine HL_y (y_idxA0 Tryz.underlying103 sz63 rfl rfl inferInstance (by omega)) rfl ?_
          refine HL_y (y_ldc Tryz.underlying63 rfl rfl (((S23.blk 4 rfl).cell _).trans (addU_get _ _ i (by rw [list_8]; omega) (list_len _ _)))) rfl ?_
          refine HL_y (y_move rfl) rfl ?_
          refine HL_y (y_idxA0 Tryz.underlying103 sz63 rfl rfl inferInstance (by omega)) rfl ?_
          refine HL_y (y_ldc Tryz.underlying63 rfl rfl (((S23.blk 0 rfl).cell _).trans (uA_get' _ _ (by rw [list_8]; omega)))) rfl ?_
          refine HL_y (y_add rfl rfl (addW _ _)) rfl ?_
          refine HL_y (y_idxA0 Tryz.underlying103 sz63 rfl rfl inferInstance (by omega)) rfl ?_
          refine HL_nil ?_
          refine hK20 _ ?_
          refine L_o (o_st1 S23 4 rfl rfl rfl rfl sz63 (by rw [size_uA, length_addU R.list v.list (list_len _ _), list_8]; omega) fun w24 S24 => ?_)
          have S9 := S24.blkc 4 rfl (addU_set _ _ i (list_len _ _) (by rw [list_8]; omega))
          refine L_nil ?_
          refine hK18 _ _ ?_
          refine T_region ?_
          refine L_y (y_add rfl rfl (i64w (by omega))) rfl ?_
          refine L_y (y_move rfl) rfl ?_
          refine L_nil ?_
          refine ⟨i + 1, by omega, ⟨by omega, S9⟩, ?_⟩
          exact (Sub.cons rfl (by first | rfl | exact congrArg (Value.int _) (by omega)) (Sub.cons rfl rfl (Sub.cons rfl rfl (Sub.cons rfl rfl (Sub.nil _)))))
        ·
          obtain rfl : i = 8 := by omega
          refine T_exit ?_
          refine hK14 _ _ ?_
          refine T_seq fun K21 hK21 => ?_
          refine T_region ?_
          refine L_y (y_ldW (size := 8) (vs := uL (blockS v b).list) Tryz.underlying103 rfl sz103 rfl (S22.blk 4 rfl) ⟨by rw [← hl0]; rfl, rfl⟩) rfl ?_
          refine L_o (o_stW S22 1 rfl rfl rfl (by exact sz103) (by simp [Go.Proofs.YtgaklngnfecdaaaGreat.Sha.St.list, z8, Value.cells]) (by first | exact uA_one _ | exact uL_one _ | exact bL_one _ | exact iL_one _ | (intro u hu; simp at hu; subst hu; rfl) | (simp; done) | (simp [Value.oneCell']; done)) fun w25 S25 => ?_)
          refine L_nil ?_
          refine hK21 _ _ ?_
          refine T_ret ?_
          repeat (first | with_reducible refine up_then ?_ | with_reducible refine up_in ?_)
          refine retc rfl rfl (S25.blk 1 rfl) Tryz.underlying103 rfl (by exact sz103) ?_
          exact ⟨_, rfl, S25.like0, rfl⟩
end Go.Proofs.YtgaklngnfecdaaaGreat.Sha


/-
  Small functions of package sha.
-/
namespace Go.Proofs.YtgaklngnfecdaaaGreat.Sha
open Go.RowKit Zk Zx
set_option linter.unusedVariables false
set_option linter.unusedSimpArgs false

def start0 : Go.Proofs.YtgaklngnfecdaaaGreat.Sha.St := ⟨0x6a09e667, 0xbb67ae85, 0x3c6ef372, 0xa54ff53a, 0x510e527f, 0x9b05688c, 0x1f83d9ab, 0x5be0cd19⟩
/-- A Hash's cells. -/
def hashA (n : Nat) (v : Go.Proofs.YtgaklngnfecdaaaGreat.Sha.St) (rest : List UInt8) : Array Value := (.bool true :: .int .u64 (n : Int) :: (uL v.list ++ bL rest)).toArray

set_option maxRecDepth 100000 in
theorem start  (w0 : World)  :
    Calls Tryz.prog 117 #[] w0 fun e w' => ∃ u, e = .returned u ∧ Like w0 w' ∧ u = .agg (uA start0.list) := by
  refine enter1 (env := []) [] Tryz.func117 rfl Tryz.ntmps117 rfl rfl ?_
  have S0 := St.start w0 noM
  refine T_seq fun K1 hK1 => ?_
  refine T_region ?_
  refine L_o (o_alloc zz103 S0 rfl fun b1 w1 hb1 S1 => ?_)
  refine L_nil ?_
  refine hK1 _ _ ?_
  refine T_seq fun K2 hK2 => ?_
  refine T_region ?_
  refine L_y (y_build (cs := uA start0.list) rfl (by kernel_rfl)) rfl ?_
  refine L_o (o_stW S1 0 rfl rfl rfl (by exact sz103) (by simp [Go.Proofs.YtgaklngnfecdaaaGreat.Sha.St.list, start0, Value.cells]) (uA_one _) fun w2 S2 => ?_)
  refine L_nil ?_
  refine hK2 _ _ ?_
  refine T_ret ?_
  repeat (first | with_reducible refine up_then ?_ | with_reducible refine up_in ?_)
  refine retc rfl rfl (S2.blk 0 rfl) Tryz.underlying103 rfl (by exact sz103) ?_
  exact ⟨_, rfl, S2.like0, rfl⟩


set_option maxRecDepth 100000 in
theorem refstart  (w0 : World)  :
    Calls Tryz.prog 52 #[] w0 fun e w' => ∃ u, e = .returned u ∧ Like w0 w' ∧ u = .agg (uA start0.list) := by
  refine enter1 (env := []) [] Tryz.func52 rfl Tryz.ntmps52 rfl rfl ?_
  have S0 := St.start w0 noM
  refine T_seq fun K1 hK1 => ?_
  refine T_region ?_
  refine L_o (o_alloc zz103 S0 rfl fun b1 w1 hb1 S1 => ?_)
  refine L_nil ?_
  refine hK1 _ _ ?_
  refine T_seq fun K2 hK2 => ?_
  refine T_region ?_
  refine L_y (y_build (cs := uA start0.list) rfl (by kernel_rfl)) rfl ?_
  refine L_o (o_stW S1 0 rfl rfl rfl (by exact sz103) (by simp [Go.Proofs.YtgaklngnfecdaaaGreat.Sha.St.list, start0, Value.cells]) (uA_one _) fun w2 S2 => ?_)
  refine L_nil ?_
  refine hK2 _ _ ?_
  refine T_ret ?_
  repeat (first | with_reducible refine up_then ?_ | with_reducible refine up_in ?_)
  refine retc rfl rfl (S2.blk 0 rfl) Tryz.underlying103 rfl (by exact sz103) ?_
  exact ⟨_, rfl, S2.like0, rfl⟩


set_option maxRecDepth 100000 in
theorem new  (w0 : World)  :
    Calls Tryz.prog 84 #[] w0 fun e w' => ∃ u, e = .returned u ∧ Like w0 w' ∧ ∃ b, u = .pointer (some ⟨b, 0, none⟩) ∧ w0.heap.size ≤ b ∧ Blk w' b 210 (hashA 0 start0 (List.replicate 64 0)) := by
  refine enter1 (env := []) [] Tryz.func84 rfl Tryz.ntmps84 rfl rfl ?_
  have S0 := St.start w0 noM
  refine T_seq fun K1 hK1 => ?_
  refine T_region ?_
  refine L_y (y_assign rfl) rfl ?_
  refine L_nil ?_
  refine hK1 _ _ ?_
  refine T_seq fun K2 hK2 => ?_
  refine T_region ?_
  refine L_o (o_call Tryz.func117 rfl rfl (start _) rfl rfl ?_)
  rintro e1 w1 ⟨v1, rfl, l1, rfl⟩
  refine ⟨_, rfl, ?_⟩
  have S1 := S0.like l1
  refine L_y (y_build (cs := hashA 0 start0 (List.replicate 64 0)) rfl (by kernel_rfl)) rfl ?_
  refine L_o (o_box rfl S1 rfl fun b2 w2 hb2 S2 => ?_)
  refine L_y (y_assign rfl) rfl ?_
  refine L_nil ?_
  refine hK2 _ _ ?_
  refine T_ret ?_
  repeat (first | with_reducible refine up_then ?_ | with_reducible refine up_in ?_)
  refine ret1 rfl rfl ?_
  exact ⟨_, rfl, S2.like0, _, rfl, hb2, S2.blk 0 rfl⟩


end Go.Proofs.YtgaklngnfecdaaaGreat.Sha


/-
  Write, by package sha.
-/
namespace Go.Proofs.YtgaklngnfecdaaaGreat.Sha
open Go.RowKit Zk Zx
set_option linter.unusedVariables false
set_option linter.unusedSimpArgs false

/-- The state behind the first k blocks of l. -/
def stv (l : List UInt8) : Nat → Go.Proofs.YtgaklngnfecdaaaGreat.Sha.St
  | 0 => start0
  | k + 1 => blockS (stv l k) ((l.drop (64 * k)).take 64)
theorem stv_app (l m : List UInt8) : ∀ k, 64 * k ≤ l.length → stv (l ++ m) k = stv l k
  | 0, _ => rfl
  | k + 1, h => by
    simp only [stv]
    rw [stv_app l m k (by omega), List.drop_append_of_le_length (by omega), List.take_append_of_le_length (by simp; omega)]
/-- cs are the cells of a Hash that has taken l. -/
def HS (l : List UInt8) (cs : Array Value) : Prop := ∃ rest : List UInt8, rest.length = 64 ∧ rest.take (l.length % 64) = l.drop (64 * (l.length / 64)) ∧ cs = hashA l.length (stv l (l.length / 64)) rest
theorem HS_nil : HS [] (hashA 0 start0 (List.replicate 64 0)) := ⟨_, by simp, by simp, rfl⟩
theorem hashA_n (n n' : Nat) (v : Go.Proofs.YtgaklngnfecdaaaGreat.Sha.St) (rest : List UInt8) (x : Int) (hx : x = (n' : Int)) : (hashA n v rest).setIfInBounds 1 (.int .u64 x) = hashA n' v rest := by
  subst hx
  simp [hashA]
theorem hashA_rest (n : Nat) (v : Go.Proofs.YtgaklngnfecdaaaGreat.Sha.St) (rest : List UInt8) : (hashA n v rest).toList.drop 10 = bL rest := by
  simp [hashA, Go.Proofs.YtgaklngnfecdaaaGreat.Sha.St.list, uL]
theorem hashA_state (n : Nat) (v : Go.Proofs.YtgaklngnfecdaaaGreat.Sha.St) (rest : List UInt8) : ((hashA n v rest).toList.drop 2).take 8 = uL v.list := by
  simp [hashA, Go.Proofs.YtgaklngnfecdaaaGreat.Sha.St.list, uL]
theorem hashA_size (n : Nat) (v : Go.Proofs.YtgaklngnfecdaaaGreat.Sha.St) (rest : List UInt8) : (hashA n v rest).size = 10 + rest.length := by
  simp [hashA, Go.Proofs.YtgaklngnfecdaaaGreat.Sha.St.list]; omega
theorem hashA_split (n : Nat) (v : Go.Proofs.YtgaklngnfecdaaaGreat.Sha.St) (rest : List UInt8) : (hashA n v rest).toList = (.bool true :: .int .u64 (n : Int) :: uL v.list) ++ bL rest := by simp [hashA]
theorem hashA_copy (n : Nat) (v : Go.Proofs.YtgaklngnfecdaaaGreat.Sha.St) (rest q : List UInt8) (h o : Nat) (ho : o = 10 + h) (hh : h ≤ rest.length) :
    ((hashA n v rest).toList.take o ++ bL q ++ (hashA n v rest).toList.drop (o + (bL q).length)).toArray = hashA n v (rest.take h ++ q ++ rest.drop (h + q.length)) := by
  subst ho
  have hl : (Value.bool true :: Value.int .u64 (n : Int) :: uL v.list).length = 10 := by simp [Go.Proofs.YtgaklngnfecdaaaGreat.Sha.St.list]
  rw [hashA_split, List.take_append, List.drop_append, hl]
  rw [List.take_of_length_le (by omega), List.drop_of_length_le (by omega)]
  simp only [length_bL, Nat.add_sub_cancel_left, show 10 + h + q.length - 10 = h + q.length by omega, hashA, bL_app, bL_take, bL_drop]
  simp
theorem hashA_put (n : Nat) (v v' : Go.Proofs.YtgaklngnfecdaaaGreat.Sha.St) (rest : List UInt8) :
    ((hashA n v rest).toList.take 2 ++ (uA v'.list).toList ++ (hashA n v rest).toList.drop (2 + (uA v'.list).size)).toArray = hashA n v' rest := by
  simp [hashA, Go.Proofs.YtgaklngnfecdaaaGreat.Sha.St.list, uL, uA]
theorem HS_short (l p rest : List UInt8) (h64 : rest.length = 64) (hr : rest.take (l.length % 64) = l.drop (64 * (l.length / 64))) (h : l.length % 64 + p.length < 64) :
    HS (l ++ p) (hashA (l ++ p).length (stv l (l.length / 64)) (rest.take (l.length % 64) ++ p ++ rest.drop (l.length % 64 + p.length))) := by
  have e1 : (l ++ p).length / 64 = l.length / 64 := by rw [List.length_append]; omega
  have e2 : (l ++ p).length % 64 = l.length % 64 + p.length := by rw [List.length_append]; omega
  refine ⟨_, ?_, ?_, by rw [e1, stv_app l p _ (by omega)]⟩
  · simp [h64]; omega
  · rw [e1, e2, List.take_append_of_le_length (by simp [h64]; omega), List.take_of_length_le (by simp [h64]; omega), hr, List.drop_append_of_le_length (by omega)]
theorem HS_end (t rest : List UInt8) (j : Nat) (h64 : rest.length = 64) (hj : j % 64 = 0) (hle : j ≤ t.length) (h : t.length - j < 64) :
    HS t (hashA t.length (stv t (j / 64)) (rest.take 0 ++ t.drop j ++ rest.drop (0 + (t.drop j).length))) := by
  have e1 : t.length / 64 = j / 64 := by omega
  refine ⟨_, ?_, ?_, by rw [e1]⟩
  · simp [h64]; omega
  · rw [e1, show 64 * (j / 64) = j by omega, List.take_zero, List.nil_append, List.take_append_of_le_length (by simp; omega), List.take_of_length_le (by simp; omega)]
/-- A block more. -/
theorem stv_next (t : List UInt8) (j : Nat) (hj : j % 64 = 0) : stv t ((j + 64) / 64) = blockS (stv t (j / 64)) ((t.drop j).take 64) := by
  rw [show (j + 64) / 64 = j / 64 + 1 by omega]
  simp only [stv]
  rw [show 64 * (j / 64) = j by omega]
theorem stv_fill (l p rest : List UInt8) (h64 : rest.length = 64) (hr : rest.take (l.length % 64) = l.drop (64 * (l.length / 64))) (h0 : 0 < l.length % 64) (h : 64 - l.length % 64 ≤ p.length) :
    stv (l ++ p) ((l.length + (64 - l.length % 64)) / 64) = blockS (stv l (l.length / 64)) (rest.take (l.length % 64) ++ p.take (64 - l.length % 64) ++ rest.drop (l.length % 64 + (p.take (64 - l.length % 64)).length)) := by
  rw [show (l.length + (64 - l.length % 64)) / 64 = l.length / 64 + 1 by omega]
  simp only [stv]
  have hd : rest.drop (l.length % 64 + (p.take (64 - l.length % 64)).length) = [] := List.drop_of_length_le (by simp [h64]; omega)
  rw [stv_app l p _ (by omega), hd, List.append_nil, hr, List.drop_append_of_le_length (by omega), List.take_append]
  congr 2
  · rw [List.take_of_length_le (by simp; omega)]
  · congr 1
    simp
    omega
theorem cut_at (g o h : Nat) (hh : h < 64) : cutA (some ⟨g, o, none⟩) 64 h 1 = some ⟨g, o + h, none⟩ := by
  unfold cutA
  rw [if_neg (by omega)]
  simp [Addr.add_mid]
theorem cut_block {A : Option Addr} {c l size g n : Nat} (h : ∀ ad, 0 < n → A = some ad → ad.block ≠ g) (hn : 0 < n) : ∀ ad, cutA A c l size = some ad → ad.block ≠ g := fun ad had => by
  unfold cutA at had
  split at had
  · exact h ad hn had
  · cases A with
    | none => cases had
    | some a0 =>
      simp only [Option.map_some, Option.some.injEq] at had
      subst had
      rw [block_of_add]
      exact h a0 hn rfl
theorem rest_reads {w : World} {g n : Nat} {v : Go.Proofs.YtgaklngnfecdaaaGreat.Sha.St} {rest : List UInt8} (h : Blk w g 210 (hashA n v rest)) (h64 : rest.length = 64) : Rs w 1 (some ⟨g, 10, none⟩) 64 64 (bL rest) := by
  have := Rs.of_blk (o := 10) (n := 64) h (by rw [hashA_size, h64]; omega) (by omega)
  rwa [hashA_rest, List.take_of_length_le (by simp [h64])] at this


set_option maxRecDepth 100000 in
set_option maxHeartbeats 1000000 in
theorem write (g : Nat) (l p : List UInt8) (A : Option Addr) (m c : Nat) (cs : Array Value) (w0 : World) (hg : Blk w0 g 210 cs) (hs : HS l cs) (hp : Rs w0 1 A m c (bL p)) (hne : ∀ ad, 0 < m → A = some ad → ad.block ≠ g) (hlen : l.length + m ≤ 1000000) :
    Calls Tryz.prog 85 #[.pointer (some ⟨g, 0, none⟩), .slice A m c] w0 fun e w' => ∃ u, e = .returned u ∧ w0.grownBy w' (some g) ∧ ∃ cs', Blk w' g 210 cs' ∧ HS (l ++ p) cs' := by
  obtain ⟨rest, h64, hr, rfl⟩ := hs
  have hpl := hp.lenb
  refine enter1 (env := [(0, .pointer (some ⟨g, 0, none⟩)), (1, .slice A m c)]) [.pointer (some ⟨g, 0, none⟩), .slice A m c] Tryz.func85 rfl Tryz.ntmps85 rfl rfl ?_
  have S0 : Zx.St w0 (· = g) [blk g 210 (hashA l.length (stv l (l.length / 64)) rest)] w0 := St.borrow _ hg (fun i h => h) hg.lt
  refine T_seq fun K1 hK1 => ?_
  refine T_seq fun K2 hK2 => ?_
  refine T_region ?_
  refine L_y (y_move rfl) rfl ?_
  refine L_y (y_peqn Tryz.underlying156 rfl) rfl ?_
  refine L_y (y_move rfl) rfl ?_
  refine L_gyes rfl rfl ?_
  refine L_y (y_move rfl) rfl ?_
  refine L_gyes rfl rfl ?_
  refine L_y (y_nilp rfl) rfl ?_
  refine L_gyes rfl rfl ?_
  refine L_y (y_fieldA 0 Tryz.underlying210 rfl sz4 rfl rfl rfl) rfl ?_
  refine L_gyes rfl rfl ?_
  refine L_y (y_ldc Tryz.underlying4 rfl rfl (((S0.blk 0 rfl).cell _).trans (by rfl))) rfl ?_
  refine L_gyes rfl rfl ?_
  refine L_y ((by first | exact y_notD rfl | exact y_not rfl)) rfl ?_
  refine L_y ((by first | exact y_pickT rfl rfl | exact y_pickF rfl rfl)) rfl ?_
  refine L_nil ?_
  refine hK2 _ _ ?_
  refine T_false rfl ?_
  refine T_skip ?_
  refine hK1 _ _ ?_
  refine T_seq fun K3 hK3 => ?_
  refine T_region ?_
  refine L_y (y_move rfl) rfl ?_
  refine L_y (y_nilp rfl) rfl ?_
  refine L_y (y_fieldA 1 Tryz.underlying210 rfl sz102 rfl rfl rfl) rfl ?_
  refine L_y (y_ldc Tryz.underlying102 rfl rfl (((S0.blk 0 rfl).cell _).trans (by rfl))) rfl ?_
  refine L_y (y_rem rfl rfl (by omega) (remI (by omega))) rfl ?_
  refine L_y (y_conv is102 Tryz.underlying3 rfl (i64w (by omega))) rfl ?_
  refine L_y (y_assign rfl) rfl ?_
  refine L_nil ?_
  refine hK3 _ _ ?_
  refine T_seq fun K4 hK4 => ?_
  refine T_region ?_
  refine L_y (y_move rfl) rfl ?_
  refine L_y (y_nilp rfl) rfl ?_
  refine L_y (y_fieldA 1 Tryz.underlying210 rfl sz102 rfl rfl rfl) rfl ?_
  refine L_y (y_ldc Tryz.underlying102 rfl rfl (((S0.blk 0 rfl).cell _).trans (by rfl))) rfl ?_
  refine L_y (y_move rfl) rfl ?_
  refine L_y (y_len Tryz.underlying22 rfl) rfl ?_
  refine L_y (y_conv is3 Tryz.underlying102 rfl (u64w (by omega))) rfl ?_
  refine L_y (y_add rfl rfl (u64w (by omega))) rfl ?_
  refine L_y (y_nilp rfl) rfl ?_
  refine L_y (y_fieldA 1 Tryz.underlying210 rfl sz102 rfl rfl rfl) rfl ?_
  refine L_o (o_st1 S0 0 rfl rfl rfl rfl sz102 (by rw [hashA_size]; omega) fun w1 S1 => ?_)
  have S5 := S1.blkc 0 rfl (hashA_n l.length (l.length + m) _ rest _ (by omega))
  refine L_nil ?_
  refine hK4 _ _ ?_
  refine T_seqR (fun (e : Env) (w : World) => ∃ (j : Nat) (A1 : Option Addr) (m1 : Nat) (c1 : Nat) (rest1 : List UInt8), Sub [(0, .pointer (some ⟨g, 0, none⟩)), (1, .slice A1 m1 c1)] e ∧ j ≤ m ∧ (l.length + j) % 64 = 0 ∧ m1 = m - j ∧ Rs w0 1 A1 m1 c1 (bL (p.drop j)) ∧ (∀ ad, 0 < m1 → A1 = some ad → ad.block ≠ g) ∧ rest1.length = 64 ∧ Zx.St w0 (· = g) [blk g 210 (hashA (l.length + m) (stv (l ++ p) ((l.length + j) / 64)) rest1)] w) ?_ ?_
  ·
    refine T_seq fun K6 hK6 => ?_
    refine T_region ?_
    refine L_y (y_move rfl) rfl ?_
    refine L_y (y_gtr rfl rfl) rfl ?_
    refine L_nil ?_
    refine hK6 _ _ ?_
    refine T_cond rfl (fun h32 => ?_) (fun h32 => ?_)
    ·
      refine T_seq fun K7 hK7 => ?_
      refine T_region ?_
      refine L_y (y_move rfl) rfl ?_
      refine L_y (y_nilp rfl) rfl ?_
      refine L_y (y_fieldA 10 Tryz.underlying210 rfl sz208 rfl rfl rfl) rfl ?_
      refine L_y (y_move rfl) rfl ?_
      refine L_y (y_asliceL Tryz.underlying208 sz5 rfl rfl inferInstance (by omega)) rfl ?_
      refine L_y (y_move rfl) rfl ?_
      refine L_o (o_copyB (news := bL (p.take (64 - l.length % 64))) S5 0 rfl Tryz.underlying22 sz5 rfl (cut_at g 10 _ (by omega)) rfl (S5.rdM hp hne) (bL_take _ _).symm (by rw [hashA_size, length_bL, List.length_take, h64]; omega) (bL_one _) rfl fun w2 S2 => ?_)
      have S6 := S2.blkc 0 rfl (hashA_copy _ _ _ _ (l.length % 64) _ rfl (by omega))
      have hq : (bL (p.take (64 - l.length % 64))).length = min (64 - l.length % 64) m := by rw [length_bL, List.length_take, hpl]
      refine L_y (y_assign rfl) rfl ?_
      refine L_nil ?_
      refine hK7 _ _ ?_
      refine T_seq fun K8 hK8 => ?_
      refine T_region ?_
      refine L_y (y_move rfl) rfl ?_
      refine L_y (y_move rfl) rfl ?_
      refine L_y (y_sliceL Tryz.underlying22 sz5 rfl rfl inferInstance (by omega)) rfl ?_
      refine L_y (y_assign rfl) rfl ?_
      refine L_nil ?_
      refine hK8 _ _ ?_
      refine T_seq fun K9 hK9 => ?_
      refine T_seq fun K10 hK10 => ?_
      refine T_region ?_
      refine L_y (y_move rfl) rfl ?_
      refine L_y (y_move rfl) rfl ?_
      refine L_y (y_add rfl rfl (i64w (by omega))) rfl ?_
      refine L_y (y_lss rfl rfl) rfl ?_
      refine L_nil ?_
      refine hK10 _ _ ?_
      refine T_cond rfl (fun h46 => ?_) (fun h46 => ?_)
      ·
        have hq2 : m < 64 - l.length % 64 := by omega
        have eq : p.take (64 - l.length % 64) = p := List.take_of_length_le (by omega)
        refine T_ret ?_
        repeat (first | with_reducible refine up_then ?_ | with_reducible refine up_in ?_)
        refine ret0 rfl ?_
        have hB := S6.blk 0 rfl
        have hh := HS_short l p rest h64 hr (by omega)
        rw [eq] at hB
        rw [List.length_append, hpl] at hh
        exact ⟨_, rfl, S6.only, _, hB, by rw [hpl]; exact hh⟩
      ·
        refine T_skip ?_
        refine hK9 _ _ ?_
        refine T_zed [0, 1, 2, 3, 4, 5, 6, 7, 8, 9, 10, 11] 12 [(0, 1), (1, 1), (2, 1), (3, 1), (4, 1), (5, 1), (6, 1), (7, 1), (8, 1), (9, 2), (10, 1), (11, 1), (12, 3)] hmix (by kernel_rfl) fun w3 l3 => ?_
        have S3 := S6.like l3
        refine ZA_B (Like w3) (Like.refl _) ?_
        refine ZB_y rfl (y_move rfl) rfl ?_
        refine ZB_y rfl (y_move rfl) rfl ?_
        refine ZB_y rfl (y_nilp rfl) rfl ?_
        refine ZB_y rfl (y_fieldA 2 Tryz.underlying210 rfl sz103 rfl rfl rfl) rfl ?_
        refine ZB_y rfl (y_ldW Tryz.underlying103 rfl sz103 rfl (S3.blk 0 rfl) ⟨hashA_state _ _ _, by simp [Go.Proofs.YtgaklngnfecdaaaGreat.Sha.St.list]⟩) rfl ?_
        refine ZB_y rfl (y_move rfl) rfl ?_
        refine ZB_y rfl (y_nilp rfl) rfl ?_
        refine ZB_y rfl (y_fieldA 10 Tryz.underlying210 rfl sz208 rfl rfl rfl) rfl ?_
        refine ZB_y rfl (y_aslice Tryz.underlying208 sz5 rfl) rfl ?_
        refine ZB_o rfl (o_call Tryz.func118 rfl rfl (mix _ _ _ _ _ rfl _ (rest_reads (S3.blk 0 rfl) (by simp [h64]; omega))) rfl rfl ?_)
        rintro e4 w4 ⟨v4, rfl, l4, rfl⟩
        refine ⟨_, rfl, l4, ?_⟩
        have S4 := S3.like l4
        have q4 := l4
        refine ZB_y rfl (y_nilp rfl) rfl ?_
        refine ZB_y rfl (y_fieldA 2 Tryz.underlying210 rfl sz103 rfl rfl rfl) rfl ?_
        refine ZB_c rfl (o_stR S4 0 rfl rfl rfl (by exact sz103) (by rw [hashA_size]; simp [Go.Proofs.YtgaklngnfecdaaaGreat.Sha.St.list, uA]) (uA_one _) fun w5 S5 => ?_)
        refine ZA_nil ?_
        have e64 : (bL (p.take (64 - l.length % 64))).length = 64 - l.length % 64 := by omega
        have hp9 := hp.cutb (l := (bL (p.take (64 - l.length % 64))).length) (u := m) (by omega) (Nat.le_refl _)
        rw [e64] at hp9
        have hd9 : ((p.drop (64 - l.length % 64)).take (m - (64 - l.length % 64))) = p.drop (64 - l.length % 64) := List.take_of_length_le (by simp; omega)
        rw [hd9] at hp9
        have S7 := S5.blkc (cs' := hashA (l.length + m) (stv (l ++ p) ((l.length + (64 - l.length % 64)) / 64)) (rest.take (l.length % 64) ++ p.take (64 - l.length % 64) ++ rest.drop (l.length % 64 + (p.take (64 - l.length % 64)).length))) 0 rfl (by rw [stv_fill l p rest h64 hr (by omega) (by omega)]; exact hashA_put _ _ _ _)
        refine ⟨64 - l.length % 64, _, m - (64 - l.length % 64), _, _, (Sub.cons rfl (by first | rfl | exact congrArg (Value.int _) (by omega)) (Sub.cons rfl (by first | rfl | (rw [e64])) (Sub.nil _))), by omega, by omega, by omega, hp9, fun ad h0 had => cut_block hne (by omega) ad had, by simp [h64]; omega, S7⟩
    ·
      refine T_skip ?_
      exact ⟨0, A, m, c, rest, (Sub.cons rfl (by first | rfl | exact congrArg (Value.int _) (by omega)) (Sub.cons rfl (by first | rfl | (rw [e64])) (Sub.nil _))), by omega, by omega, by omega, by rw [List.drop_zero]; exact hp, hne, h64, S5.blkc 0 rfl (by rw [Nat.add_zero, stv_app l p _ (by omega)])⟩
  ·
    rintro e6 w6 ⟨j, A1, m1, c1, rest1, hsub, hj, hjm, hm1, hp1, hne1, h641, S6⟩
    refine T_weak hsub ?_
    refine T_seq fun K11 hK11 => ?_
    refine T_block ?_
    refine T_loop5 [(0, _)] (fun (j : Nat) (A1 : Option Addr) (m1 : Nat) (c1 : Nat) (rest1 : List UInt8) => [(1, .slice A1 m1 c1)]) (fun (j : Nat) (A1 : Option Addr) (m1 : Nat) (c1 : Nat) (rest1 : List UInt8) => m1) (fun (j : Nat) (A1 : Option Addr) (m1 : Nat) (c1 : Nat) (rest1 : List UInt8) (w : World) => j ≤ m ∧ (l.length + j) % 64 = 0 ∧ m1 = m - j ∧ Rs w0 1 A1 m1 c1 (bL (p.drop j)) ∧ (∀ ad, 0 < m1 → A1 = some ad → ad.block ≠ g) ∧ rest1.length = 64 ∧ Zx.St w0 (· = g) [blk g 210 (hashA (l.length + m) (stv (l ++ p) ((l.length + j) / 64)) rest1)] w) j A1 m1 c1 rest1 (Sub.cons rfl (by first | rfl | exact congrArg (Value.int _) (by omega)) (Sub.nil _)) (Sub.cons rfl rfl (Sub.nil _)) ?_ ?_
    ·
      exact ⟨hj, hjm, hm1, hp1, hne1, h641, S6⟩
    ·
      intro j A1 m1 c1 rest1 w7 hrel
      obtain ⟨hj, hjm, hm1, hp1, hne1, h641, S7⟩ := hrel
      refine T_seq fun K12 hK12 => ?_
      refine T_seq fun K13 hK13 => ?_
      refine T_region ?_
      refine L_y (y_move rfl) rfl ?_
      refine L_y (y_len Tryz.underlying22 rfl) rfl ?_
      refine L_y (y_geq rfl rfl) rfl ?_
      refine L_nil ?_
      refine hK13 _ _ ?_
      refine T_cond rfl (fun h61 => ?_) (fun h61 => ?_)
      ·
        refine T_skip ?_
        refine hK12 _ _ ?_
        refine T_seq fun K14 hK14 => ?_
        refine T_block ?_
        refine T_zed [0, 1, 2, 3, 4, 5, 6, 7, 8, 9] 10 [(0, 1), (1, 1), (2, 1), (3, 1), (4, 1), (5, 1), (6, 1), (7, 2), (8, 1), (9, 1), (10, 3)] hmix (by kernel_rfl) fun w8 l8 => ?_
        have S8 := S7.like l8
        refine ZA_B (Like w8) (Like.refl _) ?_
        have hcc := hp1.cap
        refine ZB_y rfl (y_move rfl) rfl ?_
        refine ZB_y rfl (y_move rfl) rfl ?_
        refine ZB_y rfl (y_nilp rfl) rfl ?_
        refine ZB_y rfl (y_fieldA 2 Tryz.underlying210 rfl sz103 rfl rfl rfl) rfl ?_
        refine ZB_y rfl (y_ldW Tryz.underlying103 rfl sz103 rfl (S8.blk 0 rfl) ⟨hashA_state _ _ _, by simp [Go.Proofs.YtgaklngnfecdaaaGreat.Sha.St.list]⟩) rfl ?_
        refine ZB_y rfl (y_move rfl) rfl ?_
        refine ZB_y rfl (y_sliceH Tryz.underlying22 sz5 rfl rfl inferInstance (by omega)) rfl ?_
        have hp8 := (S8.rdM hp1 hne1).cutb (l := 0) (u := 64) (by omega) (by omega)
        have hblk : ((l ++ p).drop (l.length + j)).take 64 = ((p.drop j).drop 0).take (64 - 0) := by rw [List.drop_append, List.drop_of_length_le (by omega), List.nil_append, Nat.add_sub_cancel_left, List.drop_zero]
        refine ZB_o rfl (o_call Tryz.func118 rfl rfl (mix _ _ _ _ _ rfl _ hp8) rfl rfl ?_)
        rintro e9 w9 ⟨v9, rfl, l9, rfl⟩
        refine ⟨_, rfl, l9, ?_⟩
        have S9 := S8.like l9
        have q9 := l9
        refine ZB_y rfl (y_nilp rfl) rfl ?_
        refine ZB_y rfl (y_fieldA 2 Tryz.underlying210 rfl sz103 rfl rfl rfl) rfl ?_
        refine ZB_c rfl (o_stR S9 0 rfl rfl rfl (by exact sz103) (by rw [hashA_size]; simp [Go.Proofs.YtgaklngnfecdaaaGreat.Sha.St.list, uA]) (uA_one _) fun w10 S10 => ?_)
        refine ZA_nil ?_
        refine hK14 _ _ ?_
        refine T_region ?_
        refine L_y (y_move rfl) rfl ?_
        refine L_y (y_sliceL Tryz.underlying22 sz5 rfl rfl inferInstance (by omega)) rfl ?_
        refine L_y (y_assign rfl) rfl ?_
        refine L_nil ?_
        have hp9 := hp1.cutb (l := 64) (u := m1) (by omega) (Nat.le_refl _)
        have hd9 : (((p.drop j).drop 64).take (m1 - 64)) = p.drop (j + 64) := by rw [List.drop_drop]; exact List.take_of_length_le (by simp; omega)
        rw [hd9] at hp9
        have S8 := S10.blkc (cs' := hashA (l.length + m) (stv (l ++ p) ((l.length + (j + 64)) / 64)) rest1) 0 rfl (by rw [← Nat.add_assoc, stv_next (l ++ p) _ hjm, hblk]; exact hashA_put _ _ _ _)
        refine ⟨j + 64, _, m1 - 64, _, rest1, by omega, ⟨by omega, by omega, by omega, hp9, fun ad h0 had => cut_block hne1 (by omega) ad had, h641, S8⟩, ?_⟩
        exact (Sub.cons rfl (by first | rfl | exact congrArg (Value.int _) (by omega)) (Sub.cons rfl rfl (Sub.nil _)))
      ·
        refine T_exit ?_
        refine hK11 _ _ ?_
        refine T_region ?_
        refine L_y (y_move rfl) rfl ?_
        refine L_y (y_nilp rfl) rfl ?_
        refine L_y (y_fieldA 10 Tryz.underlying210 rfl sz208 rfl rfl rfl) rfl ?_
        refine L_y (y_aslice Tryz.underlying208 sz5 rfl) rfl ?_
        refine L_y (y_move rfl) rfl ?_
        refine L_o (o_copyB (news := bL (p.drop j)) S7 0 rfl Tryz.underlying22 sz5 rfl rfl rfl (S7.rdM hp1 hne1) (by rw [List.take_of_length_le (by simp; omega)]) (by rw [hashA_size, length_bL, List.length_drop, h641]; omega) (bL_one _) rfl fun w11 S11 => ?_)
        refine L_nil ?_
        refine end0 rfl ?_
        have hB := (S11.blkc 0 rfl (hashA_copy _ _ _ _ 0 _ rfl (by omega))).blk 0 rfl
        have hh := HS_end (l ++ p) rest1 (l.length + j) h641 hjm (by rw [List.length_append]; omega) (by rw [List.length_append]; omega)
        rw [List.length_append, hpl, List.drop_append, List.drop_of_length_le (show l.length ≤ l.length + j by omega), List.nil_append, Nat.add_sub_cancel_left] at hh
        exact ⟨_, rfl, S11.only, _, hB, hh⟩
end Go.Proofs.YtgaklngnfecdaaaGreat.Sha


/-
  Sum, by package sha.
-/
namespace Go.Proofs.YtgaklngnfecdaaaGreat.Sha
open Go.RowKit Zk Zx
set_option linter.unusedVariables false
set_option linter.unusedSimpArgs false

/-- A number of 32 bits as bytes, the highest first. -/
def be4 (x : UInt32) : List UInt8 := [UInt8.ofNat (x.toNat / 16777216 % 256), UInt8.ofNat (x.toNat / 65536 % 256), UInt8.ofNat (x.toNat / 256 % 256), UInt8.ofNat (x.toNat % 256)]
def digL (v : Go.Proofs.YtgaklngnfecdaaaGreat.Sha.St) : List UInt8 := v.list.flatMap be4
theorem length_be4 (l : List UInt32) : (l.flatMap be4).length = 4 * l.length := by
  induction l with
  | nil => rfl
  | cons x l ih => simp only [List.flatMap_cons, List.length_append, ih, List.length_cons]; simp [be4]; omega
theorem length_digL (v : Go.Proofs.YtgaklngnfecdaaaGreat.Sha.St) : (digL v).length = 32 := by rw [digL, length_be4, list_8]
/-- The first i numbers laid. -/
def idU (v : Go.Proofs.YtgaklngnfecdaaaGreat.Sha.St) (i : Nat) : List UInt8 := (v.list.take i).flatMap be4 ++ List.replicate (32 - 4 * i) 0
theorem length_idU (v : Go.Proofs.YtgaklngnfecdaaaGreat.Sha.St) (i : Nat) (h : i ≤ 8) : (idU v i).length = 32 := by
  simp only [idU, List.length_append, length_be4, List.length_take, list_8, List.length_replicate]
  omega
theorem idU_8 (v : Go.Proofs.YtgaklngnfecdaaaGreat.Sha.St) : idU v 8 = digL v := by
  simp [idU, digL, Go.Proofs.YtgaklngnfecdaaaGreat.Sha.St.list]
theorem bA_set (l : List UInt8) (k : Nat) (c : UInt8) (x : Int) (hx : x = (c.toNat : Int)) : (bA l).setIfInBounds k (.int .u8 x) = bA (l.set k c) := by
  subst hx
  simp only [bA, bL, List.setIfInBounds_toArray, List.map_set]
  rfl
theorem take_next (v : Go.Proofs.YtgaklngnfecdaaaGreat.Sha.St) (i : Nat) (h : i < 8) : (v.list.take (i + 1)).flatMap be4 = (v.list.take i).flatMap be4 ++ be4 (v.list.getD i 0) := by
  rw [List.take_succ_eq_append_getElem (by rw [list_8]; exact h), List.flatMap_append]
  simp [List.getD_eq_getElem?_getD, List.getElem?_eq_getElem (show i < v.list.length by rw [list_8]; exact h)]
theorem set4 (pre post : List UInt8) (a b c d : UInt8) (k : Nat) (hk : pre.length = k) :
    ((((pre ++ 0 :: 0 :: 0 :: 0 :: post).set k a).set (k + 1) b).set (k + 2) c).set (k + 3) d = pre ++ [a, b, c, d] ++ post := by
  subst hk
  rw [List.set_append_right _ _ (by omega), List.set_append_right _ _ (by omega), List.set_append_right _ _ (by omega), List.set_append_right _ _ (by omega)]
  simp
theorem idU_set (v : Go.Proofs.YtgaklngnfecdaaaGreat.Sha.St) (i : Nat) (h : i < 8) :
    (((((bA (idU v i)).setIfInBounds (4 * i) (.int .u8 (N (v.list.getD i 0) / 16777216 % 256))).setIfInBounds (4 * i + 1) (.int .u8 (N (v.list.getD i 0) / 65536 % 256))).setIfInBounds (4 * i + 2) (.int .u8 (N (v.list.getD i 0) / 256 % 256))).setIfInBounds (4 * i + 3) (.int .u8 (N (v.list.getD i 0) % 256))) = bA (idU v (i + 1)) := by
  generalize hx : v.list.getD i 0 = x
  rw [bA_set _ _ (UInt8.ofNat (x.toNat / 16777216 % 256)) _ (by rw [UInt8.toNat_ofNat']; unfold N; omega), bA_set _ _ (UInt8.ofNat (x.toNat / 65536 % 256)) _ (by rw [UInt8.toNat_ofNat']; unfold N; omega),
    bA_set _ _ (UInt8.ofNat (x.toNat / 256 % 256)) _ (by rw [UInt8.toNat_ofNat']; unfold N; omega), bA_set _ _ (UInt8.ofNat (x.toNat % 256)) _ (by rw [UInt8.toNat_ofNat']; unfold N; omega)]
  congr 1
  have e : List.replicate (32 - 4 * i) (0 : UInt8) = 0 :: 0 :: 0 :: 0 :: List.replicate (32 - 4 * (i + 1)) 0 := by
    rw [show 32 - 4 * i = (32 - 4 * (i + 1)) + 1 + 1 + 1 + 1 by omega]
    simp [List.replicate_succ]
  unfold idU
  rw [e, set4 _ _ _ _ _ _ (4 * i) (by rw [length_be4, List.length_take, list_8]; omega), take_next v i h, hx]
  simp [be4]
/-- The sum of l. -/
def ofL (l : List UInt8) : List UInt8 := digL (stv (l ++ padR l.length) ((l ++ padR l.length).length / 64))
theorem shrF (x : UInt32) (k p : Nat) (hk : k ≤ 32) (hp : 2 ^ k = p) : Int.fdiv (N x) (2 ^ (min ((k : Nat) : Int).toNat IntKind.u32.bits)) = N x / (p : Int) := by
  have e : min ((k : Nat) : Int).toNat IntKind.u32.bits = k := by simp only [IntKind.bits]; omega
  rw [e, Int.fdiv_eq_ediv_of_nonneg _ (Int.pow_nonneg (by omega)), ← hp]
  simp


theorem hashA_one (n : Nat) (v : Go.Proofs.YtgaklngnfecdaaaGreat.Sha.St) (rest : List UInt8) : ∀ u ∈ (hashA n v rest).toList, u.oneCell' = true := by
  intro u hu
  rw [hashA_split] at hu
  rcases List.mem_append.1 hu with h | h
  · rcases List.mem_cons.1 h with rfl | h
    · rfl
    · rcases List.mem_cons.1 h with rfl | h
      · rfl
      · exact uL_one _ u h
  · exact bL_one _ u h
def z32 : List UInt8 := List.replicate 32 0
set_option maxRecDepth 100000 in
set_option maxHeartbeats 1000000 in
theorem sum (g : Nat) (l : List UInt8) (cs : Array Value) (w0 : World) (hb : Blk w0 g 210 cs) (hs : HS l cs) (hlen : l.length ≤ 100000) :
    Calls Tryz.prog 86 #[.pointer (some ⟨g, 0, none⟩)] w0 fun e w' => ∃ u, e = .returned u ∧ Like w0 w' ∧ u = .agg (bA (ofL l)) := by
  obtain ⟨rest, h64, hr, rfl⟩ := hs
  refine enter1 (env := [(0, .pointer (some ⟨g, 0, none⟩))]) [.pointer (some ⟨g, 0, none⟩)] Tryz.func86 rfl Tryz.ntmps86 rfl rfl ?_
  have S0 := St.start w0 noM
  refine T_seq fun K1 hK1 => ?_
  refine T_region ?_
  refine L_o (o_alloc zz41 S0 rfl fun b1 w1 hb1 S1 => ?_)
  refine L_nil ?_
  refine hK1 _ _ ?_
  refine T_seq fun K2 hK2 => ?_
  refine T_seq fun K3 hK3 => ?_
  refine T_region ?_
  refine L_y (y_move rfl) rfl ?_
  refine L_y (y_peqn Tryz.underlying156 rfl) rfl ?_
  refine L_y (y_move rfl) rfl ?_
  refine L_gyes rfl rfl ?_
  refine L_y (y_move rfl) rfl ?_
  refine L_gyes rfl rfl ?_
  refine L_y (y_nilp rfl) rfl ?_
  refine L_gyes rfl rfl ?_
  refine L_y (y_fieldA 0 Tryz.underlying210 rfl sz4 rfl rfl rfl) rfl ?_
  refine L_gyes rfl rfl ?_
  refine L_y (y_ldc Tryz.underlying4 rfl rfl (((S1.rdB hb).cell _).trans (by rfl))) rfl ?_
  refine L_gyes rfl rfl ?_
  refine L_y ((by first | exact y_notD rfl | exact y_not rfl)) rfl ?_
  refine L_y ((by first | exact y_pickT rfl rfl | exact y_pickF rfl rfl)) rfl ?_
  refine L_nil ?_
  refine hK3 _ _ ?_
  refine T_false rfl ?_
  refine T_skip ?_
  refine hK2 _ _ ?_
  refine T_seq fun K4 hK4 => ?_
  refine T_region ?_
  refine L_y (y_move rfl) rfl ?_
  refine L_y (y_nilp rfl) rfl ?_
  refine L_y (y_ldW (size := 74) (vs := (hashA l.length (stv l (l.length / 64)) rest).toList) Tryz.underlying210 rfl sz210 rfl (S1.rdB hb) ⟨by rw [List.drop_zero]; exact List.take_of_length_le (by simp [hashA_size, h64]), by simp [hashA_size, h64]⟩) rfl ?_
  refine L_o (o_alloc zz210 S1 rfl fun b2 w2 hb2 S2 => ?_)
  refine L_o (o_stW S2 1 rfl rfl rfl (by rw [List.size_toArray, Array.length_toList, hashA_size, h64]; exact sz210) (by rw [List.size_toArray, Array.length_toList, hashA_size, h64]; simp [Value.cells]) (hashA_one _ _ _) fun w3 S3 => ?_)
  refine L_nil ?_
  refine hK4 _ _ ?_
  refine T_seq fun K5 hK5 => ?_
  refine T_region ?_
  refine L_y (y_move rfl) rfl ?_
  refine L_y (y_nilp rfl) rfl ?_
  refine L_y (y_fieldA 1 Tryz.underlying210 rfl sz102 rfl rfl rfl) rfl ?_
  refine L_y (y_ldc Tryz.underlying102 rfl rfl (((S3.rdB hb).cell _).trans (by rfl))) rfl ?_
  refine L_o (o_call Tryz.func119 rfl rfl (shapad l.length (by omega) _) rfl rfl ?_)
  rintro e4 w4 ⟨v4, rfl, l4, A4, m4, c4, rfl, o4⟩
  refine ⟨_, rfl, ?_⟩
  have S4 := S3.adopt l4 o4
  have hpm := (S4.row 2 rfl).lenb
  rw [length_padR] at hpm
  have hgp : gapR l.length ≤ 63 := by unfold gapR; omega
  refine L_o (o_call Tryz.func85 rfl rfl (write _ l (padR l.length) _ _ _ _ _ (S4.blk 1 rfl) ⟨rest, h64, hr, rfl⟩ (S4.row 2 rfl) (S4.row_ne 2 1 rfl rfl rfl) (by omega)) rfl rfl ?_)
  rintro e5 w5 ⟨u5, rfl, hgb, cs', hB', rest2, h642, hr2, rfl⟩
  refine ⟨_, rfl, ?_⟩
  have S5 := S4.wrote (r' := blk _ _ _) 1 rfl (fun i => Iff.rfl) (fun i h => h) hgb hB'
  have hBv := S5.blk 1 rfl
  generalize hV : stv (l ++ padR l.length) ((l ++ padR l.length).length / 64) = V at hBv S5
  refine L_nil ?_
  refine hK5 _ _ ?_
  refine T_seq fun K6 hK6 => ?_
  refine T_region ?_
  refine L_o (o_alloc zz41 S5 rfl fun b6 w6 hb6 S6 => ?_)
  refine L_nil ?_
  refine hK6 _ _ ?_
  refine T_seq fun K7 hK7 => ?_
  refine T_seq fun K8 hK8 => ?_
  refine T_region ?_
  refine L_y (y_fieldA 2 Tryz.underlying210 rfl sz103 rfl rfl rfl) rfl ?_
  refine L_y (y_ldW Tryz.underlying103 rfl sz103 rfl (S6.blk 1 rfl) ⟨hashA_state _ _ _, by simp [Go.Proofs.YtgaklngnfecdaaaGreat.Sha.St.list]⟩) rfl ?_
  refine L_y (y_move rfl) rfl ?_
  refine L_nil ?_
  refine hK8 _ _ ?_
  refine T_block ?_
  refine T_loop1 [(2, _), (4, _), (27, _)] (fun (i : Nat) => [(28, .int .i64 (i : Int))]) (fun (i : Nat) => 8 - i) (fun (i : Nat) (w : World) => i ≤ 8 ∧ Zx.St w0 noM [blk b1 41 (bA z32), blk b2 210 (hashA (l ++ padR l.length).length V rest2), row 5 1 A4 m4 c4 (bL (padR l.length)), blk b6 41 (bA (idU V i))] w) 0 (Sub.cons rfl (by first | rfl | exact congrArg (Value.int _) (by omega)) (Sub.nil _)) (Sub.cons rfl rfl (Sub.cons rfl rfl (Sub.cons rfl rfl (Sub.nil _)))) ?_ ?_
  ·
    exact ⟨by omega, S6⟩
  ·
    intro i w7 hrel
    obtain ⟨hi, S7⟩ := hrel
    refine T_seq fun K9 hK9 => ?_
    refine T_region ?_
    refine L_y (y_lss rfl rfl) rfl ?_
    refine L_nil ?_
    refine hK9 _ _ ?_
    refine T_seq fun K10 hK10 => ?_
    refine T_cond rfl (fun h29 => ?_) (fun h29 => ?_)
    ·
      refine T_skip ?_
      refine hK10 _ _ ?_
      refine T_seq fun K11 hK11 => ?_
      refine T_block ?_
      refine T_seq fun K12 hK12 => ?_
      refine T_region ?_
      refine L_y (y_move rfl) rfl ?_
      refine L_y (y_idxV Tryz.underlying103 Tryz.underlying63 rfl sz63 rfl rfl inferInstance (by omega) (uA_get' _ _ (by rw [list_8]; omega))) rfl ?_
      refine L_y (y_assign rfl) rfl ?_
      refine L_y (y_assign rfl) rfl ?_
      refine L_nil ?_
      refine hK12 _ _ ?_
      refine T_region ?_
      refine L_y (y_move rfl) rfl ?_
      refine L_y (y_mul rfl rfl (i64w (by omega))) rfl ?_
      refine L_y (y_move rfl) rfl ?_
      refine L_y (y_mul rfl rfl (i64w (by omega))) rfl ?_
      refine L_y (y_add rfl rfl (i64w (by omega))) rfl ?_
      refine L_y (y_move rfl) rfl ?_
      refine L_y (y_mul rfl rfl (i64w (by omega))) rfl ?_
      refine L_y (y_add rfl rfl (i64w (by omega))) rfl ?_
      refine L_y (y_move rfl) rfl ?_
      refine L_y (y_mul rfl rfl (i64w (by omega))) rfl ?_
      refine L_y (y_add rfl rfl (i64w (by omega))) rfl ?_
      refine L_y (y_move rfl) rfl ?_
      refine L_y (y_shr rfl rfl (by omega) (shrF _ 24 16777216 (by omega) rfl)) rfl ?_
      refine L_y (y_conv is63 Tryz.underlying5 rfl (IntKind.wrap_u8 _)) rfl ?_
      refine L_y (y_move rfl) rfl ?_
      refine L_y (y_shr rfl rfl (by omega) (shrF _ 16 65536 (by omega) rfl)) rfl ?_
      refine L_y (y_conv is63 Tryz.underlying5 rfl (IntKind.wrap_u8 _)) rfl ?_
      refine L_y (y_move rfl) rfl ?_
      refine L_y (y_shr rfl rfl (by omega) (shrF _ 8 256 (by omega) rfl)) rfl ?_
      refine L_y (y_conv is63 Tryz.underlying5 rfl (IntKind.wrap_u8 _)) rfl ?_
      refine L_y (y_move rfl) rfl ?_
      refine L_y (y_conv is63 Tryz.underlying5 rfl (IntKind.wrap_u8 _)) rfl ?_
      refine L_y (y_idxA0 Tryz.underlying41 sz5 rfl rfl inferInstance (by omega)) rfl ?_
      refine L_o (o_st1 S7 3 rfl rfl rfl rfl sz5 (by simp [bA, bL, length_idU V i (by omega)]; omega) fun w8 S8 => ?_)
      refine L_y (y_idxA0 Tryz.underlying41 sz5 rfl rfl inferInstance (by omega)) rfl ?_
      refine L_o (o_st1 S8 3 rfl rfl rfl rfl sz5 (by simp [bA, bL, length_idU V i (by omega)]; omega) fun w9 S9 => ?_)
      refine L_y (y_idxA0 Tryz.underlying41 sz5 rfl rfl inferInstance (by omega)) rfl ?_
      refine L_o (o_st1 S9 3 rfl rfl rfl rfl sz5 (by simp [bA, bL, length_idU V i (by omega)]; omega) fun w10 S10 => ?_)
      refine L_y (y_idxA0 Tryz.underlying41 sz5 rfl rfl inferInstance (by omega)) rfl ?_
      refine L_o (o_st1 S10 3 rfl rfl rfl rfl sz5 (by simp [bA, bL, length_idU V i (by omega)]; omega) fun w11 S11 => ?_)
      refine L_nil ?_
      refine hK11 _ _ ?_
      refine T_region ?_
      refine L_y (y_add rfl rfl (i64w (by omega))) rfl ?_
      refine L_y (y_move rfl) rfl ?_
      refine L_nil ?_
      have S9 := S11.blkc 3 rfl (idU_set V i (by omega))
      refine ⟨i + 1, by omega, ⟨by omega, S9⟩, ?_⟩
      exact (Sub.cons rfl (by first | rfl | exact congrArg (Value.int _) (by omega)) (Sub.cons rfl rfl (Sub.cons rfl rfl (Sub.cons rfl rfl (Sub.nil _)))))
    ·
      obtain rfl : i = 8 := by omega
      refine T_exit ?_
      refine hK7 _ _ ?_
      refine T_seq fun K13 hK13 => ?_
      refine T_region ?_
      refine L_y (y_ldW (size := 32) (vs := bL (digL V)) Tryz.underlying41 rfl sz41 rfl (S7.blk 3 rfl) ⟨by rw [List.drop_zero, idU_8]; exact List.take_of_length_le (by rw [Array.length_toList, size_bA, length_digL]; omega), by rw [length_bL, length_digL]⟩) rfl ?_
      refine L_o (o_stW S7 0 rfl rfl rfl (by rw [List.size_toArray, length_bL, length_digL]; exact sz41) (by rw [List.size_toArray, length_bL, length_digL]; simp [bA, z32]) (bL_one _) fun w12 S12 => ?_)
      refine L_nil ?_
      refine hK13 _ _ ?_
      refine T_ret ?_
      repeat (first | with_reducible refine up_then ?_ | with_reducible refine up_in ?_)
      refine retc rfl rfl (S12.blk 0 rfl) Tryz.underlying41 rfl (by rw [List.size_toArray, length_bL, length_digL]; exact sz41) ?_
      exact ⟨_, rfl, S12.like0, by rw [ofL, hV]; rfl⟩
end Go.Proofs.YtgaklngnfecdaaaGreat.Sha


/-
  The sum, by the reference.
-/
namespace Go.Proofs.YtgaklngnfecdaaaGreat.Sha
open Go.RowKit Zk Zx
set_option linter.unusedVariables false
set_option linter.unusedSimpArgs false

theorem whole8 (v : Go.Proofs.YtgaklngnfecdaaaGreat.Sha.St) : ((uA v.list).toList.drop 0).take 8 = uL v.list ∧ (uL v.list).length = 8 :=
  ⟨by rw [List.drop_zero]; exact List.take_of_length_le (by rw [Array.length_toList, size_uA, list_8]; omega), by rw [length_uL, list_8]⟩
/-- q bytes of the number k laid, from the last on. -/
def idR (v : Go.Proofs.YtgaklngnfecdaaaGreat.Sha.St) (k q : Nat) : List UInt8 := (v.list.take k).flatMap be4 ++ (List.replicate (4 - q) 0 ++ (be4 (v.list.getD k 0)).drop (4 - q) ++ List.replicate (32 - 4 * (k + 1)) 0)
theorem idR_0 (v : Go.Proofs.YtgaklngnfecdaaaGreat.Sha.St) (k : Nat) (h : k < 8) : idR v k 0 = idU v k := by
  unfold idR idU
  congr 1
  rw [show 32 - 4 * k = 4 + (32 - 4 * (k + 1)) by omega, ← List.replicate_append_replicate]
  simp [be4]
theorem idR_4 (v : Go.Proofs.YtgaklngnfecdaaaGreat.Sha.St) (k : Nat) (h : k < 8) : idR v k 4 = idU v (k + 1) := by
  unfold idR idU
  rw [take_next v k h]
  simp [be4]
theorem length_idR (v : Go.Proofs.YtgaklngnfecdaaaGreat.Sha.St) (k q : Nat) (h : k < 8) (hq : q ≤ 4) : (idR v k q).length = 32 := by
  simp only [idR, List.length_append, length_be4, List.length_take, list_8, List.length_replicate, List.length_drop]
  simp only [be4, List.length_cons, List.length_nil]
  omega
theorem idR_set (v : Go.Proofs.YtgaklngnfecdaaaGreat.Sha.St) (k q : Nat) (h : k < 8) (hq : q < 4) :
    (bA (idR v k q)).setIfInBounds (4 * k + (3 - q)) (.int .u8 (N (v.list.getD k 0) / 256 ^ q % 256 % 256)) = bA (idR v k (q + 1)) := by
  generalize hx : v.list.getD k 0 = x
  have hp : ((v.list.take k).flatMap be4).length = 4 * k := by rw [length_be4, List.length_take, list_8]; omega
  have e : ∀ (c : UInt8), (idR v k q).set (4 * k + (3 - q)) c = (v.list.take k).flatMap be4 ++ ((List.replicate (4 - q) 0 ++ (be4 x).drop (4 - q) ++ List.replicate (32 - 4 * (k + 1)) 0).set (3 - q) c) := fun c => by
    unfold idR
    rw [List.set_append_right _ _ (by omega), hp, hx]
    congr 2
    omega
  have hq' : q = 0 ∨ q = 1 ∨ q = 2 ∨ q = 3 := by omega
  rcases hq' with rfl | rfl | rfl | rfl
  · rw [bA_set _ _ (UInt8.ofNat (x.toNat % 256)) _ (by rw [UInt8.toNat_ofNat']; unfold N; omega), e]
    unfold idR; rw [hx]; simp [be4]
  · rw [bA_set _ _ (UInt8.ofNat (x.toNat / 256 % 256)) _ (by rw [UInt8.toNat_ofNat']; unfold N; omega), e]
    unfold idR; rw [hx]; simp [be4]
  · rw [bA_set _ _ (UInt8.ofNat (x.toNat / 65536 % 256)) _ (by rw [UInt8.toNat_ofNat']; unfold N; omega), e]
    unfold idR; rw [hx]; simp [be4]
  · rw [bA_set _ _ (UInt8.ofNat (x.toNat / 16777216 % 256)) _ (by rw [UInt8.toNat_ofNat']; unfold N; omega), e]
    unfold idR; rw [hx]; simp [be4]
theorem N_div (x : UInt32) (q : Nat) : 0 ≤ N x / 256 ^ q ∧ N x / 256 ^ q ≤ 4294967295 := by
  have h1 := N_ge x
  have h2 := N_le x
  have h3 : (0 : Int) < 256 ^ q := Int.pow_pos (by omega)
  refine ⟨Int.ediv_nonneg h1 (by omega), ?_⟩
  exact Int.le_trans (Int.ediv_le_self _ h1) h2
theorem divq (x : UInt32) (q : Nat) : N x / 256 ^ q / 256 = N x / 256 ^ (q + 1) := by
  rw [Int.pow_succ, Int.ediv_ediv_of_nonneg (Int.pow_nonneg (by omega))]


set_option maxRecDepth 100000 in
set_option maxHeartbeats 1000000 in
theorem refof (l : List UInt8) (A : Option Addr) (n c : Nat) (w0 : World) (ha : Rs w0 1 A n c (bL l)) (hlen : n ≤ 100000) :
    Calls Tryz.prog 25 #[.slice A n c] w0 fun e w' => ∃ u, e = .returned u ∧ Like w0 w' ∧ u = .agg (bA (ofL l)) := by
  refine enter1 (env := [(0, .slice A n c)]) [.slice A n c] Tryz.func25 rfl Tryz.ntmps25 rfl rfl ?_
  have S0 := St.start w0 noM
  refine T_seq fun K1 hK1 => ?_
  refine T_region ?_
  refine L_o (o_alloc zz41 S0 rfl fun b1 w1 hb1 S1 => ?_)
  refine L_nil ?_
  refine hK1 _ _ ?_
  refine T_seq fun K2 hK2 => ?_
  refine T_region ?_
  have S2 := S1.nilrow 5 1
  refine L_y (y_assign rfl) rfl ?_
  refine L_nil ?_
  refine hK2 _ _ ?_
  refine T_seq fun K3 hK3 => ?_
  refine T_region ?_
  refine L_y (y_move rfl) rfl ?_
  refine L_y (y_move rfl) rfl ?_
  refine L_o (o_app te22 S2 1 rfl rfl rfl (by first | exact S2.rd ha | exact S2.row 1 rfl) (by first | exact bL_one _ | exact iL_one _ | (intro u hu; simp at hu; subst hu; rfl) | (simp; done) | (simp [Value.oneCell']; done)) rfl (by omega) (by omega) fun A3 c3 w3 S3 => ?_)
  have hln : l.length = n := ha.lenb
  refine L_y (y_assign rfl) rfl ?_
  refine L_nil ?_
  refine hK3 _ _ ?_
  refine T_seq fun K4 hK4 => ?_
  refine T_region ?_
  refine L_y (y_move rfl) rfl ?_
  refine L_y (y_move rfl) rfl ?_
  refine L_y (y_len Tryz.underlying22 rfl) rfl ?_
  refine L_y (y_conv is3 Tryz.underlying102 rfl (u64w (by omega))) rfl ?_
  refine L_o (o_call Tryz.func51 rfl rfl (refpad n (by omega) _) rfl rfl ?_)
  rintro e4 w4 ⟨v4, rfl, l4, A4, m4, c4, rfl, o4⟩
  refine ⟨_, rfl, ?_⟩
  have S4 := S3.adopt l4 o4
  have hpm := (S4.row 2 rfl).lenb
  rw [length_padR] at hpm
  have hgp : gapR n ≤ 63 := by unfold gapR; omega
  refine L_o (o_app te22 S4 1 rfl rfl rfl (by first | exact S4.rd ha | exact S4.row 1 rfl | exact S4.row 2 rfl) (by first | exact bL_one _ | exact iL_one _ | (intro u hu; simp at hu; subst hu; rfl) | (simp; done) | (simp [Value.oneCell']; done)) rfl (by omega) (by omega) fun A5 c5 w5 S5 => ?_)
  have S9 := (S5.rowc 1 rfl (n' := n + m4) (xs' := bL (l ++ padR l.length)) (by omega) (by rw [bL_app, hln]; rfl))
  have hal : (l ++ padR l.length).length = n + m4 := by rw [List.length_append, length_padR, hln, ← hpm]
  generalize hAL : l ++ padR l.length = al at S9 hal
  have hofl : ofL l = digL (stv al (al.length / 64)) := by rw [ofL, hAL]
  refine L_y (y_assign rfl) rfl ?_
  refine L_nil ?_
  refine hK4 _ _ ?_
  refine T_seq fun K5 hK5 => ?_
  refine T_region ?_
  refine L_o (o_call Tryz.func52 rfl rfl (refstart _) rfl rfl ?_)
  rintro e6 w6 ⟨v6, rfl, l6, rfl⟩
  refine ⟨_, rfl, ?_⟩
  have S6 := S9.like l6
  refine L_o (o_alloc zz103 S6 rfl fun b7 w7 hb7 S7 => ?_)
  refine L_o (o_stW S7 3 rfl rfl rfl (by exact sz103) (by rw [size_uA, list_8]; simp [Value.cells, uA, list_8]) (uA_one _) fun w8 S8 => ?_)
  refine L_nil ?_
  refine hK5 _ _ ?_
  refine T_seq fun K6 hK6 => ?_
  refine T_seq fun K7 hK7 => ?_
  refine T_region ?_
  refine L_y (y_assign rfl) rfl ?_
  refine L_nil ?_
  refine hK7 _ _ ?_
  refine T_block ?_
  refine T_loop1 [(2, _), (3, _), (4, _)] (fun (j : Nat) => [(5, .int .i64 ((64 * j : Nat) : Int))]) (fun (j : Nat) => al.length / 64 - j) (fun (j : Nat) (w : World) => j ≤ al.length / 64 ∧ Zx.St w0 noM [blk b1 41 (bA z32), row 5 1 A5 (n + m4) c5 (bL al), row 5 1 A4 m4 c4 (bL (padR n)), blk b7 103 (uA (stv al j).list)] w) 0 (Sub.cons rfl (by first | rfl | exact congrArg (Value.int _) (by omega)) (Sub.nil _)) (Sub.cons rfl rfl (Sub.cons rfl rfl (Sub.cons rfl rfl (Sub.nil _)))) ?_ ?_
  ·
    exact ⟨Nat.zero_le _, S8⟩
  ·
    intro j w9 hrel
    obtain ⟨hj, S9⟩ := hrel
    refine T_seq fun K8 hK8 => ?_
    refine T_seq fun K9 hK9 => ?_
    refine T_region ?_
    refine L_y (y_move rfl) rfl ?_
    refine L_y (y_add rfl rfl (i64w (by omega))) rfl ?_
    refine L_y (y_move rfl) rfl ?_
    refine L_y (y_len Tryz.underlying22 rfl) rfl ?_
    refine L_y (y_leq rfl rfl) rfl ?_
    refine L_nil ?_
    refine hK9 _ _ ?_
    refine T_cond rfl (fun h24 => ?_) (fun h24 => ?_)
    ·
      refine T_skip ?_
      refine hK8 _ _ ?_
      refine T_seq fun K10 hK10 => ?_
      refine T_block ?_
      refine T_tail 6 hmix (by kernel_rfl) fun w10 l10 K11 hK11 => ?_
      have S10 := S9.like l10
      refine HL_y (y_ldW Tryz.underlying103 rfl sz103 rfl (S10.blk 3 rfl) (whole8 _)) rfl ?_
      have hcc := (S10.row 1 rfl).cap
      refine HL_y (y_move rfl) rfl ?_
      refine HL_y (y_move rfl) rfl ?_
      refine HL_y (y_move rfl) rfl ?_
      refine HL_y (y_add rfl rfl (i64w (by omega))) rfl ?_
      refine HL_y (y_slice Tryz.underlying22 sz5 rfl rfl rfl inferInstance inferInstance (by omega) (by omega)) rfl ?_
      refine HL_nil ?_
      refine hK11 _ ?_
      have hc9 := (S10.row 1 rfl).cutb (l := 64 * j) (u := 64 * j + 64) (by omega) (by omega)
      have hblk : stv al (j + 1) = blockS (stv al j) ((al.drop (64 * j)).take (64 * j + 64 - 64 * j)) := by rw [show 64 * j + 64 - 64 * j = 64 by omega]; rfl
      refine L_o (o_call Tryz.func53 rfl rfl (refblock _ _ _ _ _ (by omega) _ hc9) rfl rfl ?_)
      rintro e11 w11 ⟨v11, rfl, l11, rfl⟩
      refine ⟨_, rfl, ?_⟩
      have S11 := S10.like l11
      refine L_o (o_stW S11 3 rfl rfl rfl (by exact sz103) (by rw [size_uA, list_8]; simp [Value.cells, uA, list_8]) (uA_one _) fun w12 S12 => ?_)
      refine L_nil ?_
      refine hK10 _ _ ?_
      refine T_region ?_
      refine L_y (y_move rfl) rfl ?_
      refine L_y (y_add rfl rfl (i64w (by omega))) rfl ?_
      refine L_y (y_assign rfl) rfl ?_
      refine L_nil ?_
      have S8 := S12.blkc (cs' := uA (stv al (j + 1)).list) 3 rfl (by rw [hblk])
      refine ⟨j + 1, by omega, ⟨by omega, S8⟩, ?_⟩
      exact (Sub.cons rfl (by first | rfl | exact congrArg (Value.int _) (by omega)) (Sub.cons rfl rfl (Sub.cons rfl rfl (Sub.cons rfl rfl (Sub.nil _)))))
    ·
      obtain rfl : j = al.length / 64 := by omega
      generalize hV : stv al (al.length / 64) = V at hofl S9 ⊢
      refine T_exit ?_
      refine hK6 _ _ ?_
      refine T_seq fun K12 hK12 => ?_
      refine T_region ?_
      refine L_o (o_alloc zz41 S9 rfl fun b13 w13 hb13 S13 => ?_)
      refine L_nil ?_
      refine hK12 _ _ ?_
      refine T_seq fun K13 hK13 => ?_
      refine T_seq fun K14 hK14 => ?_
      refine T_region ?_
      refine L_y (y_assign rfl) rfl ?_
      refine L_nil ?_
      refine hK14 _ _ ?_
      refine T_block ?_
      refine T_loop1 [(2, _), (4, _), (6, _)] (fun (k : Nat) => [(7, .int .i64 (k : Int))]) (fun (k : Nat) => 8 - k) (fun (k : Nat) (w : World) => k ≤ 8 ∧ Zx.St w0 noM [blk b1 41 (bA z32), row 5 1 A5 (n + m4) c5 (bL al), row 5 1 A4 m4 c4 (bL (padR n)), blk b7 103 (uA V.list), blk b13 41 (bA (idU V k))] w) 0 (Sub.cons rfl (by first | rfl | exact congrArg (Value.int _) (by omega)) (Sub.nil _)) (Sub.cons rfl rfl (Sub.cons rfl rfl (Sub.cons rfl rfl (Sub.nil _)))) ?_ ?_
      ·
        exact ⟨by omega, S13⟩
      ·
        intro k w14 hrel
        obtain ⟨hk, S14⟩ := hrel
        refine T_seq fun K15 hK15 => ?_
        refine T_seq fun K16 hK16 => ?_
        refine T_region ?_
        refine L_y (y_move rfl) rfl ?_
        refine L_y (y_lss rfl rfl) rfl ?_
        refine L_nil ?_
        refine hK16 _ _ ?_
        refine T_cond rfl (fun h35 => ?_) (fun h35 => ?_)
        ·
          refine T_skip ?_
          refine hK15 _ _ ?_
          refine T_seq fun K17 hK17 => ?_
          refine T_block ?_
          refine T_seq fun K18 hK18 => ?_
          refine T_region ?_
          refine L_y (y_move rfl) rfl ?_
          refine L_y (y_idxA0 Tryz.underlying103 sz63 rfl rfl inferInstance (by omega)) rfl ?_
          refine L_y (y_ldc Tryz.underlying63 rfl rfl (((S14.blk 3 rfl).cell _).trans (uA_get' _ _ (by rw [list_8]; omega)))) rfl ?_
          refine L_y (y_assign rfl) rfl ?_
          refine L_nil ?_
          refine hK18 _ _ ?_
          refine T_seq fun K19 hK19 => ?_
          refine T_region ?_
          refine L_y (y_assign rfl) rfl ?_
          refine L_nil ?_
          refine hK19 _ _ ?_
          refine T_block ?_
          refine T_loop1 [(2, _), (4, _), (6, _), (7, _)] (fun (q : Nat) => [(8, .int .u32 (N (V.list.getD k 0) / 256 ^ q)), (9, .int .i64 (3 - (q : Int)))]) (fun (q : Nat) => 4 - q) (fun (q : Nat) (w : World) => q ≤ 4 ∧ Zx.St w0 noM [blk b1 41 (bA z32), row 5 1 A5 (n + m4) c5 (bL al), row 5 1 A4 m4 c4 (bL (padR n)), blk b7 103 (uA V.list), blk b13 41 (bA (idR V k q))] w) 0 (Sub.cons rfl (by first | rfl | exact congrArg (Value.int _) (by simp)) (Sub.cons rfl (by first | rfl | exact congrArg (Value.int _) (by simp)) (Sub.nil _))) (Sub.cons rfl rfl (Sub.cons rfl rfl (Sub.cons rfl rfl (Sub.cons rfl rfl (Sub.nil _))))) ?_ ?_
          ·
            exact ⟨by omega, S14.blkc 4 rfl (congrArg bA (idR_0 V k (by omega)).symm)⟩
          ·
            intro q w15 hrel
            obtain ⟨hq, S15⟩ := hrel
            have hnd := N_div (V.list.getD k 0) q
            refine T_seq fun K20 hK20 => ?_
            refine T_seq fun K21 hK21 => ?_
            refine T_region ?_
            refine L_y (y_move rfl) rfl ?_
            refine L_y (y_geq rfl rfl) rfl ?_
            refine L_nil ?_
            refine hK21 _ _ ?_
            refine T_cond rfl (fun h42 => ?_) (fun h42 => ?_)
            ·
              refine T_skip ?_
              refine hK20 _ _ ?_
              refine T_seq fun K22 hK22 => ?_
              refine T_block ?_
              refine T_seq fun K23 hK23 => ?_
              refine T_region ?_
              refine L_y (y_move rfl) rfl ?_
              refine L_y (y_mul rfl rfl (i64w (by omega))) rfl ?_
              refine L_y (y_move rfl) rfl ?_
              refine L_y (y_add rfl rfl (i64w (by omega))) rfl ?_
              refine L_y (y_move rfl) rfl ?_
              refine L_y (y_rem rfl rfl (by omega) (remI (by omega))) rfl ?_
              refine L_y (y_conv is63 Tryz.underlying5 rfl (IntKind.wrap_u8 _)) rfl ?_
              refine L_y (y_idxA0 Tryz.underlying41 sz5 rfl rfl (Nt.mk (by omega) : Nt _ (4 * k + (3 - q))) (by omega)) rfl ?_
              refine L_o (o_st1 S15 4 rfl rfl rfl rfl sz5 (by rw [size_bA, length_idR V k q (by omega) (by omega)]; omega) fun w16 S16 => ?_)
              refine L_nil ?_
              refine hK23 _ _ ?_
              refine T_region ?_
              refine L_y (y_move rfl) rfl ?_
              refine L_y (y_quo rfl rfl (by omega) (quo32 (by omega) (by omega))) rfl ?_
              refine L_y (y_assign rfl) rfl ?_
              refine L_nil ?_
              refine hK22 _ _ ?_
              refine T_region ?_
              refine L_y (y_move rfl) rfl ?_
              refine L_y (y_sub rfl rfl (i64w (by omega))) rfl ?_
              refine L_y (y_assign rfl) rfl ?_
              refine L_nil ?_
              have S8 := S16.blkc 4 rfl (idR_set V k q (by omega) (by omega))
              refine ⟨q + 1, by omega, ⟨by omega, S8⟩, ?_⟩
              exact (Sub.cons rfl (congrArg (Value.int _) (divq _ _)) (Sub.cons rfl (congrArg (Value.int _) (by omega)) (Sub.cons rfl rfl (Sub.cons rfl rfl (Sub.cons rfl rfl (Sub.cons rfl rfl (Sub.nil _)))))))
            ·
              obtain rfl : q = 4 := by omega
              refine T_exit ?_
              refine hK17 _ _ ?_
              refine T_region ?_
              refine L_y (y_move rfl) rfl ?_
              refine L_y (y_add rfl rfl (i64w (by omega))) rfl ?_
              refine L_y (y_assign rfl) rfl ?_
              refine L_nil ?_
              have S8 := S15.blkc 4 rfl (congrArg bA (idR_4 V k (by omega)))
              refine ⟨k + 1, by omega, ⟨by omega, S8⟩, ?_⟩
              exact (Sub.cons rfl (by first | rfl | exact congrArg (Value.int _) (by omega)) (Sub.cons rfl rfl (Sub.cons rfl rfl (Sub.cons rfl rfl (Sub.nil _)))))
        ·
          obtain rfl : k = 8 := by omega
          refine T_exit ?_
          refine hK13 _ _ ?_
          refine T_seq fun K24 hK24 => ?_
          refine T_region ?_
          refine L_y (y_ldW (size := 32) (vs := bL (digL V)) Tryz.underlying41 rfl sz41 rfl (S14.blk 4 rfl) ⟨by rw [List.drop_zero, idU_8]; exact List.take_of_length_le (by rw [Array.length_toList, size_bA, length_digL]; omega), by rw [length_bL, length_digL]⟩) rfl ?_
          refine L_o (o_stW S14 0 rfl rfl rfl (by rw [List.size_toArray, length_bL, length_digL]; exact sz41) (by rw [List.size_toArray, length_bL, length_digL]; simp [bA, z32]) (bL_one _) fun w17 S17 => ?_)
          refine L_nil ?_
          refine hK24 _ _ ?_
          refine T_ret ?_
          repeat (first | with_reducible refine up_then ?_ | with_reducible refine up_in ?_)
          refine retc rfl rfl (S17.blk 0 rfl) Tryz.underlying41 rfl (by rw [List.size_toArray, length_bL, length_digL]; exact sz41) ?_
          exact ⟨_, rfl, S17.like0, by rw [hofl]; rfl⟩
end Go.Proofs.YtgaklngnfecdaaaGreat.Sha


/-
  The sum of parts, by the code.
-/
namespace Go.Proofs.YtgaklngnfecdaaaGreat.Sha
open Go.RowKit Zk Zx
set_option linter.unusedVariables false
set_option linter.unusedSimpArgs false

theorem p0_ok (w : World) : p0.ok w := Rs.nil w 1
theorem part_getD {w : World} {ps : List Part} (h : ∀ p ∈ ps, p.ok w) (k : Nat) : (ps.getD k p0).ok w := by
  rw [List.getD_eq_getElem?_getD]
  rcases Nat.lt_or_ge k ps.length with hk | hk
  · rw [List.getElem?_eq_getElem hk]
    exact h _ (List.getElem_mem hk)
  · rw [List.getElem?_eq_none hk]
    exact p0_ok w
def cat (ps : List Part) : List UInt8 := ps.flatMap (·.l)
theorem cat_next (ps : List Part) (k : Nat) (h : k < ps.length) : cat (ps.take (k + 1)) = cat (ps.take k) ++ (ps.getD k p0).l := by
  unfold cat
  rw [List.take_succ_eq_append_getElem h, List.flatMap_append]
  congr 1
  simp [List.getD_eq_getElem?_getD, List.getElem?_eq_getElem h]
theorem cat_le (ps : List Part) (k : Nat) : (cat (ps.take k)).length ≤ (cat ps).length := by
  have : cat ps = cat (ps.take k) ++ cat (ps.drop k) := by
    unfold cat
    rw [← List.flatMap_append, List.take_append_drop]
  rw [this, List.length_append]
  omega


theorem bA_one (l : List UInt8) : ∀ u ∈ (bA l).toList, u.oneCell' = true := bL_one l
theorem length_ofL (l : List UInt8) : (ofL l).length = 32 := length_digL _
set_option maxRecDepth 100000 in
set_option maxHeartbeats 1000000 in
theorem shaof (ps : List Part) (A : Option Addr) (n c : Nat) (w0 : World) (hps : Rs w0 1 A n c (ps.map pv)) (hok : ∀ p ∈ ps, p.ok w0) (hlen : (cat ps).length ≤ 100000) (hpl : ps.length ≤ 9223372036854775807) :
    Calls Tryz.prog 50 #[.slice A n c] w0 fun e w' => ∃ u, e = .returned u ∧ Like w0 w' ∧ u = .agg (bA (ofL (cat ps))) := by
  have hn : ps.length = n := by have := hps.len; simpa using this
  refine enter1 (env := [(0, .slice A n c)]) [.slice A n c] Tryz.func50 rfl Tryz.ntmps50 rfl rfl ?_
  have S0 := St.start w0 noM
  refine T_seq fun K1 hK1 => ?_
  refine T_region ?_
  refine L_o (o_alloc zz41 S0 rfl fun b1 w1 hb1 S1 => ?_)
  refine L_nil ?_
  refine hK1 _ _ ?_
  refine T_seq fun K2 hK2 => ?_
  refine T_region ?_
  refine L_o (o_call Tryz.func84 rfl rfl (new _) rfl rfl ?_)
  rintro e2 w2 ⟨v2, rfl, l2, b2, rfl, hb2, hB2⟩
  refine ⟨_, rfl, ?_⟩
  have S2 := S1.adoptB l2 hB2 hb2
  refine L_y (y_assign rfl) rfl ?_
  refine L_nil ?_
  refine hK2 _ _ ?_
  refine T_seq fun K3 hK3 => ?_
  refine T_seq fun K4 hK4 => ?_
  refine T_region ?_
  refine L_y (y_move rfl) rfl ?_
  refine L_y (y_len Tryz.underlying155 rfl) rfl ?_
  refine L_y (y_move rfl) rfl ?_
  refine L_nil ?_
  refine hK4 _ _ ?_
  refine T_block ?_
  refine T_loop2 [(2, _), (3, _), (7, _), (8, _)] (fun (k : Nat) (cs : Array Value) => [(9, .int .i64 (k : Int))]) (fun (k : Nat) (cs : Array Value) => ps.length - k) (fun (k : Nat) (cs : Array Value) (w : World) => k ≤ ps.length ∧ HS (cat (ps.take k)) cs ∧ Zx.St w0 noM [blk b1 41 (bA z32), blk b2 210 cs] w) 0 (hashA 0 start0 (List.replicate 64 0)) (Sub.cons rfl (by first | rfl | exact congrArg (Value.int _) (by omega)) (Sub.nil _)) (Sub.cons rfl rfl (Sub.cons rfl rfl (Sub.cons rfl rfl (Sub.cons rfl rfl (Sub.nil _))))) ?_ ?_
  ·
    exact ⟨by omega, HS_nil, S2⟩
  ·
    intro k cs w3 hrel
    obtain ⟨hk, hs, S3⟩ := hrel
    refine T_seq fun K5 hK5 => ?_
    refine T_region ?_
    refine L_y (y_lss rfl rfl) rfl ?_
    refine L_nil ?_
    refine hK5 _ _ ?_
    refine T_seq fun K6 hK6 => ?_
    refine T_cond rfl (fun h10 => ?_) (fun h10 => ?_)
    ·
      refine T_skip ?_
      refine hK6 _ _ ?_
      refine T_seq fun K7 hK7 => ?_
      refine T_block ?_
      refine T_seq fun K8 hK8 => ?_
      refine T_region ?_
      refine L_y (y_idx Tryz.underlying155 sz22 rfl rfl (by first | exact S3.rd hps) inferInstance (by omega)) rfl ?_
      refine L_y (y_ldg p0 Tryz.underlying22 rfl rfl (by first | exact S3.rd hps) (by omega)) rfl ?_
      refine L_y (y_assign rfl) rfl ?_
      refine L_nil ?_
      refine hK8 _ _ ?_
      refine T_region ?_
      refine L_y (y_move rfl) rfl ?_
      refine L_y (y_move rfl) rfl ?_
      have hz1 := S1.size
      have hq := part_getD hok k
      have hlt : k < ps.length := by omega
      have hcn := cat_next ps k hlt
      have hcl := cat_le ps (k + 1)
      have hql := hq.lenb
      have hcx : (cat (ps.take k)).length + (ps.getD k p0).n ≤ 1000000 := by rw [hcn, List.length_append, hql] at hcl; omega
      refine L_o (o_call Tryz.func85 rfl rfl (write _ _ (ps.getD k p0).l _ _ _ _ _ (S3.blk 1 rfl) hs (S3.rd hq) (fun ad h0 had => by obtain ⟨ad', had', hlt', _⟩ := hq.rd.2 h0; rw [had] at had'; cases had'; omega) hcx) rfl rfl ?_)
      rintro e4 w4 ⟨u4, rfl, hgb, cs', hB', hs'⟩
      refine ⟨_, rfl, ?_⟩
      have S4 := S3.wrote (r' := blk _ _ _) 1 rfl (fun i => Iff.rfl) (fun i h => h) hgb hB'
      rw [← hcn] at hs'
      refine L_nil ?_
      refine hK7 _ _ ?_
      refine T_region ?_
      refine L_y (y_add rfl rfl (i64w (by omega))) rfl ?_
      refine L_y (y_move rfl) rfl ?_
      refine L_nil ?_
      refine ⟨k + 1, _, by omega, ⟨by omega, hs', S4⟩, ?_⟩
      exact (Sub.cons rfl (by first | rfl | exact congrArg (Value.int _) (by omega)) (Sub.cons rfl rfl (Sub.cons rfl rfl (Sub.cons rfl rfl (Sub.cons rfl rfl (Sub.nil _))))))
    ·
      have hke : ps.take k = ps := List.take_of_length_le (by omega)
      rw [hke] at hs
      refine T_exit ?_
      refine hK3 _ _ ?_
      refine T_seq fun K9 hK9 => ?_
      refine T_region ?_
      refine L_y (y_move rfl) rfl ?_
      refine L_o (o_call Tryz.func86 rfl rfl (sum _ (cat ps) cs _ (S3.blk 1 rfl) hs (by omega)) rfl rfl ?_)
      rintro e5 w5 ⟨v5, rfl, l5, rfl⟩
      refine ⟨_, rfl, ?_⟩
      have S5 := S3.like l5
      refine L_o (o_stW S5 0 rfl rfl rfl (by rw [size_bA, length_ofL]; exact sz41) (by rw [size_bA, length_ofL]; simp [Value.cells, bA, z32]) (bA_one _) fun w6 S6 => ?_)
      refine L_nil ?_
      refine hK9 _ _ ?_
      refine T_ret ?_
      repeat (first | with_reducible refine up_then ?_ | with_reducible refine up_in ?_)
      refine retc rfl rfl (S6.blk 0 rfl) Tryz.underlying41 rfl (by rw [size_bA, length_ofL]; exact sz41) ?_
      exact ⟨_, rfl, S6.like0, rfl⟩
end Go.Proofs.YtgaklngnfecdaaaGreat.Sha


/-
  Names.
-/
namespace Go.Proofs.YtgaklngnfecdaaaGreat.Obj
open Go.RowKit Zk Zx
open Oid (idf idf_len)
open Tre (nmOk EV enf enf_len mdOk chkE)
open Rev (cutF cutF_some cutF_none)
set_option linter.unusedVariables false
set_option linter.unusedSimpArgs false

/-- An object's name. -/
def nameI (k : Int) (b : List UInt8) : List UInt8 := if objE k b = 0 then Sha.ofL (objB k b) else zB
theorem nameI_len (k : Int) (b : List UInt8) : (nameI k b).length = 32 := by unfold nameI; split; exact Sha.length_ofL _; exact zB_len
theorem nameI_ok {k : Int} {b : List UInt8} (h : objE k b = 0) : nameI k b = Sha.ofL (objB k b) := if_pos h
theorem nameI_no {k : Int} {b : List UInt8} (h : objE k b ≠ 0) : nameI k b = zB := if_neg h


set_option maxRecDepth 100000 in
theorem rname1 (k : Int) (B : Option Addr) (m d : Nat) (b : List UInt8) (w0 : World) (hb : Rs w0 1 B m d (bL b)) (hm9 : m ≤ 90000) (he : objE k b = 0) :
    Calls Tryz.prog 24 #[.int .i64 k, .slice B m d] w0 fun e w' => ∃ u, e = .returned u ∧ Like w0 w' ∧ u = .tuple #[.agg (bA (nameI k b)), .int .i64 (objE k b)] := by
  refine enter1 (env := [(0, .int .i64 k), (1, .slice B m d)]) [.int .i64 k, .slice B m d] Tryz.func24 rfl Tryz.ntmps24 rfl rfl ?_
  have hl := hb.lenb; have hcap := hb.cap; have hmax := hb.max
  have hol := objB_len he
  have S0 := St.start w0 noM
  refine T_seq fun K1 hK1 => ?_
  refine T_region ?_
  refine L_o (o_alloc zz41 S0 rfl fun b1 w1 hb1 S1 => ?_)
  have S2 : Zx.St w0 noM [blk b1 41 (bA zB)] w1 := S1.cast (by kernel_rfl)
  refine L_y (y_assign rfl) rfl ?_
  refine L_nil ?_
  refine hK1 _ _ ?_
  refine T_seq fun K2 hK2 => ?_
  refine T_region ?_
  refine L_y (y_move rfl) rfl ?_
  refine L_y (y_move rfl) rfl ?_
  refine L_o (o_call Tryz.func13 rfl rfl (rbytesGood k B m d b w1 (S2.rd hb) hm9 he) rfl rfl ?_)
  rintro e3 w3 ⟨v3, rfl, l3, A3, c3, rfl, F3⟩
  refine ⟨_, rfl, ?_⟩
  have S3 := S2.adoptF l3 F3
  refine L_y (y_move rfl) rfl ?_
  refine L_y (y_extract rfl rfl) rfl ?_
  refine L_y (y_extract rfl rfl) rfl ?_
  refine L_y (y_assign rfl) rfl ?_
  refine L_y (y_assign rfl) rfl ?_
  refine L_nil ?_
  refine hK2 _ _ ?_
  refine T_seq fun K3 hK3 => ?_
  refine T_seq fun K4 hK4 => ?_
  refine T_region ?_
  refine L_y (y_move rfl) rfl ?_
  refine L_y (y_neq rfl rfl) rfl ?_
  refine L_nil ?_
  refine hK4 _ _ ?_
  refine T_cond rfl (fun h15 => ?_) (fun h15 => ?_)
  ·
    exact absurd rfl h15
  ·
    refine T_skip ?_
    refine hK3 _ _ ?_
    refine T_seq fun K5 hK5 => ?_
    refine T_region ?_
    refine L_y (y_move rfl) rfl ?_
    refine L_o (o_call Tryz.func25 rfl rfl (Sha.refof (objB k b) _ _ _ w3 (S3.fix 1 rfl) (by omega)) rfl rfl ?_)
    rintro e4 w4 ⟨v4, rfl, l4, rfl⟩
    refine ⟨_, rfl, ?_⟩
    have S4 := S3.like l4
    refine L_o (o_stW S4 0 rfl rfl rfl (by first | exact sz41 | (rw [size_bA, Sha.length_ofL]; exact sz41)) (by first | rfl | (rw [size_bA, size_bA, Sha.length_ofL]; rfl)) (Sha.bA_one _) fun w5 S5 => ?_)
    refine L_y (y_assign rfl) rfl ?_
    refine L_nil ?_
    refine hK5 _ _ ?_
    refine T_ret ?_
    repeat (first | with_reducible refine up_then ?_ | with_reducible refine up_in ?_)
    refine retct rfl rfl rfl (S5.blk 0 rfl) Tryz.underlying41 rfl (by first | exact sz41 | (rw [size_bA, Sha.length_ofL]; exact sz41)) ?_
    exact ⟨_, rfl, S5.like0, by first | (rw [nameI_ok he, he]; done) | (rw [nameI_ok he, he]; simp [Sha.cat]; done) | (rw [nameI_ok he, he, show Sha.cat _ = objB k b by simp [Sha.cat]]; rfl)⟩


set_option maxRecDepth 100000 in
theorem rname0 (k : Int) (B : Option Addr) (m d : Nat) (b : List UInt8) (w0 : World) (hb : Rs w0 1 B m d (bL b)) (hm9 : m ≤ 90000) (he : objE k b ≠ 0) :
    Calls Tryz.prog 24 #[.int .i64 k, .slice B m d] w0 fun e w' => ∃ u, e = .returned u ∧ Like w0 w' ∧ u = .tuple #[.agg (bA (nameI k b)), .int .i64 (objE k b)] := by
  refine enter1 (env := [(0, .int .i64 k), (1, .slice B m d)]) [.int .i64 k, .slice B m d] Tryz.func24 rfl Tryz.ntmps24 rfl rfl ?_
  have hl := hb.lenb; have hcap := hb.cap; have hmax := hb.max
  have S0 := St.start w0 noM
  refine T_seq fun K1 hK1 => ?_
  refine T_region ?_
  refine L_o (o_alloc zz41 S0 rfl fun b1 w1 hb1 S1 => ?_)
  have S2 : Zx.St w0 noM [blk b1 41 (bA zB)] w1 := S1.cast (by kernel_rfl)
  refine L_y (y_assign rfl) rfl ?_
  refine L_nil ?_
  refine hK1 _ _ ?_
  refine T_seq fun K2 hK2 => ?_
  refine T_region ?_
  refine L_y (y_move rfl) rfl ?_
  refine L_y (y_move rfl) rfl ?_
  refine L_o (o_call Tryz.func13 rfl rfl (rbytesBad k B m d b w1 (S2.rd hb) hm9 he) rfl rfl ?_)
  rintro e3 w3 ⟨v3, rfl, l3, rfl⟩
  refine ⟨_, rfl, ?_⟩
  have S3 := S2.like l3
  refine L_y (y_move rfl) rfl ?_
  refine L_y (y_extract rfl rfl) rfl ?_
  refine L_y (y_extract rfl rfl) rfl ?_
  refine L_y (y_assign rfl) rfl ?_
  refine L_y (y_assign rfl) rfl ?_
  refine L_nil ?_
  refine hK2 _ _ ?_
  refine T_seq fun K3 hK3 => ?_
  refine T_seq fun K4 hK4 => ?_
  refine T_region ?_
  refine L_y (y_move rfl) rfl ?_
  refine L_y (y_neq rfl rfl) rfl ?_
  refine L_nil ?_
  refine hK4 _ _ ?_
  refine T_cond rfl (fun h15 => ?_) (fun h15 => ?_)
  ·
    refine T_seq fun K5 hK5 => ?_
    refine T_region ?_
    refine L_y (y_build rfl (show _ = some (bA zB) by kernel_rfl)) rfl ?_
    refine L_y (y_move rfl) rfl ?_
    refine L_o (o_stW S3 0 rfl rfl rfl (by first | exact sz41 | (rw [size_bA, Sha.length_ofL]; exact sz41)) (by first | rfl | (rw [size_bA, size_bA, Sha.length_ofL]; rfl)) (Sha.bA_one _) fun w4 S4 => ?_)
    refine L_y (y_assign rfl) rfl ?_
    refine L_nil ?_
    refine hK5 _ _ ?_
    refine T_ret ?_
    repeat (first | with_reducible refine up_then ?_ | with_reducible refine up_in ?_)
    refine retct rfl rfl rfl (S4.blk 0 rfl) Tryz.underlying41 rfl (by first | exact sz41 | (rw [size_bA, Sha.length_ofL]; exact sz41)) ?_
    exact ⟨_, rfl, S4.like0, by rw [nameI_no he]; rfl⟩
  ·
    exact absurd he h15


set_option maxRecDepth 100000 in
theorem name1 (k : Int) (B : Option Addr) (m d : Nat) (b : List UInt8) (w0 : World) (hb : Rs w0 1 B m d (bL b)) (hm9 : m ≤ 90000) (he : objE k b = 0) :
    Calls Tryz.prog 23 #[.int .i64 k, .slice B m d] w0 fun e w' => ∃ u, e = .returned u ∧ Like w0 w' ∧ u = .tuple #[.agg (bA (nameI k b)), .int .i64 (objE k b)] := by
  refine enter1 (env := [(0, .int .i64 k), (1, .slice B m d)]) [.int .i64 k, .slice B m d] Tryz.func23 rfl Tryz.ntmps23 rfl rfl ?_
  have hl := hb.lenb; have hcap := hb.cap; have hmax := hb.max
  have hol := objB_len he
  have S0 := St.start w0 noM
  refine T_seq fun K1 hK1 => ?_
  refine T_region ?_
  refine L_o (o_alloc zz41 S0 rfl fun b1 w1 hb1 S1 => ?_)
  have S2 : Zx.St w0 noM [blk b1 41 (bA zB)] w1 := S1.cast (by kernel_rfl)
  refine L_y (y_assign rfl) rfl ?_
  refine L_nil ?_
  refine hK1 _ _ ?_
  refine T_seq fun K2 hK2 => ?_
  refine T_region ?_
  refine L_y (y_move rfl) rfl ?_
  refine L_y (y_move rfl) rfl ?_
  refine L_o (o_call Tryz.func12 rfl rfl (bytesGood k B m d b w1 (S2.rd hb) hm9 he) rfl rfl ?_)
  rintro e3 w3 ⟨v3, rfl, l3, A3, c3, rfl, F3⟩
  refine ⟨_, rfl, ?_⟩
  have S3 := S2.adoptF l3 F3
  refine L_y (y_move rfl) rfl ?_
  refine L_y (y_extract rfl rfl) rfl ?_
  refine L_y (y_extract rfl rfl) rfl ?_
  refine L_y (y_assign rfl) rfl ?_
  refine L_y (y_assign rfl) rfl ?_
  refine L_nil ?_
  refine hK2 _ _ ?_
  refine T_seq fun K3 hK3 => ?_
  refine T_seq fun K4 hK4 => ?_
  refine T_region ?_
  refine L_y (y_move rfl) rfl ?_
  refine L_y (y_neq rfl rfl) rfl ?_
  refine L_nil ?_
  refine hK4 _ _ ?_
  refine T_cond rfl (fun h15 => ?_) (fun h15 => ?_)
  ·
    exact absurd rfl h15
  ·
    refine T_skip ?_
    refine hK3 _ _ ?_
    refine T_seq fun K5 hK5 => ?_
    refine T_region ?_
    refine L_y (y_move rfl) rfl ?_
    refine L_o (o_bsl [_] te155 zz22 S3 rfl rfl rfl rfl rfl rfl rfl rfl fun b4 w4 S4 => ?_)
    refine L_o (o_call Tryz.func50 rfl rfl (Sha.shaof [⟨_, _, _, objB k b⟩] _ _ _ w4 (S4.row 2 rfl) (fun p hp => by cases hp with | head => exact S4.fix 1 rfl | tail _ h => cases h) (by simp [Sha.cat]; omega) (by simp)) rfl rfl ?_)
    rintro e5 w5 ⟨v5, rfl, l5, rfl⟩
    refine ⟨_, rfl, ?_⟩
    have S5 := S4.like l5
    refine L_o (o_stW S5 0 rfl rfl rfl (by first | exact sz41 | (rw [size_bA, Sha.length_ofL]; exact sz41)) (by first | rfl | (rw [size_bA, size_bA, Sha.length_ofL]; rfl)) (Sha.bA_one _) fun w6 S6 => ?_)
    refine L_y (y_assign rfl) rfl ?_
    refine L_nil ?_
    refine hK5 _ _ ?_
    refine T_ret ?_
    repeat (first | with_reducible refine up_then ?_ | with_reducible refine up_in ?_)
    refine retct rfl rfl rfl (S6.blk 0 rfl) Tryz.underlying41 rfl (by first | exact sz41 | (rw [size_bA, Sha.length_ofL]; exact sz41)) ?_
    exact ⟨_, rfl, S6.like0, by first | (rw [nameI_ok he, he]; done) | (rw [nameI_ok he, he]; simp [Sha.cat]; done) | (rw [nameI_ok he, he, show Sha.cat _ = objB k b by simp [Sha.cat]]; rfl)⟩


set_option maxRecDepth 100000 in
theorem name0 (k : Int) (B : Option Addr) (m d : Nat) (b : List UInt8) (w0 : World) (hb : Rs w0 1 B m d (bL b)) (hm9 : m ≤ 90000) (he : objE k b ≠ 0) :
    Calls Tryz.prog 23 #[.int .i64 k, .slice B m d] w0 fun e w' => ∃ u, e = .returned u ∧ Like w0 w' ∧ u = .tuple #[.agg (bA (nameI k b)), .int .i64 (objE k b)] := by
  refine enter1 (env := [(0, .int .i64 k), (1, .slice B m d)]) [.int .i64 k, .slice B m d] Tryz.func23 rfl Tryz.ntmps23 rfl rfl ?_
  have hl := hb.lenb; have hcap := hb.cap; have hmax := hb.max
  have S0 := St.start w0 noM
  refine T_seq fun K1 hK1 => ?_
  refine T_region ?_
  refine L_o (o_alloc zz41 S0 rfl fun b1 w1 hb1 S1 => ?_)
  have S2 : Zx.St w0 noM [blk b1 41 (bA zB)] w1 := S1.cast (by kernel_rfl)
  refine L_y (y_assign rfl) rfl ?_
  refine L_nil ?_
  refine hK1 _ _ ?_
  refine T_seq fun K2 hK2 => ?_
  refine T_region ?_
  refine L_y (y_move rfl) rfl ?_
  refine L_y (y_move rfl) rfl ?_
  refine L_o (o_call Tryz.func12 rfl rfl (bytesBad k B m d b w1 (S2.rd hb) hm9 he) rfl rfl ?_)
  rintro e3 w3 ⟨v3, rfl, l3, rfl⟩
  refine ⟨_, rfl, ?_⟩
  have S3 := S2.like l3
  refine L_y (y_move rfl) rfl ?_
  refine L_y (y_extract rfl rfl) rfl ?_
  refine L_y (y_extract rfl rfl) rfl ?_
  refine L_y (y_assign rfl) rfl ?_
  refine L_y (y_assign rfl) rfl ?_
  refine L_nil ?_
  refine hK2 _ _ ?_
  refine T_seq fun K3 hK3 => ?_
  refine T_seq fun K4 hK4 => ?_
  refine T_region ?_
  refine L_y (y_move rfl) rfl ?_
  refine L_y (y_neq rfl rfl) rfl ?_
  refine L_nil ?_
  refine hK4 _ _ ?_
  refine T_cond rfl (fun h15 => ?_) (fun h15 => ?_)
  ·
    refine T_seq fun K5 hK5 => ?_
    refine T_region ?_
    refine L_y (y_build rfl (show _ = some (bA zB) by kernel_rfl)) rfl ?_
    refine L_y (y_move rfl) rfl ?_
    refine L_o (o_stW S3 0 rfl rfl rfl (by first | exact sz41 | (rw [size_bA, Sha.length_ofL]; exact sz41)) (by first | rfl | (rw [size_bA, size_bA, Sha.length_ofL]; rfl)) (Sha.bA_one _) fun w4 S4 => ?_)
    refine L_y (y_assign rfl) rfl ?_
    refine L_nil ?_
    refine hK5 _ _ ?_
    refine T_ret ?_
    repeat (first | with_reducible refine up_then ?_ | with_reducible refine up_in ?_)
    refine retct rfl rfl rfl (S4.blk 0 rfl) Tryz.underlying41 rfl (by first | exact sz41 | (rw [size_bA, Sha.length_ofL]; exact sz41)) ?_
    exact ⟨_, rfl, S4.like0, by rw [nameI_no he]; rfl⟩
  ·
    exact absurd he h15
end Go.Proofs.YtgaklngnfecdaaaGreat.Obj


/-
  The law ObjectNames.
-/
namespace Go.Proofs.YtgaklngnfecdaaaGreat.Obj
open Go.RowKit Zk Zx
open Oid (idf idf_len)
open Tre (nmOk EV enf enf_len mdOk chkE)
open Rev (cutF cutF_some cutF_none)
set_option linter.unusedVariables false
set_option linter.unusedSimpArgs false

theorem name_ (k : Int) (B : Option Addr) (m d : Nat) (b : List UInt8) (w0 : World) (hb : Rs w0 1 B m d (bL b)) (hm9 : m ≤ 90000) : Calls Tryz.prog 23 #[.int .i64 k, .slice B m d] w0 fun e w' => ∃ u, e = .returned u ∧ Like w0 w' ∧ u = .tuple #[.agg (bA (nameI k b)), .int .i64 (objE k b)] := by
  by_cases he : objE k b = 0
  · exact name1 k B m d b w0 hb hm9 he
  · exact name0 k B m d b w0 hb hm9 he
theorem rname_ (k : Int) (B : Option Addr) (m d : Nat) (b : List UInt8) (w0 : World) (hb : Rs w0 1 B m d (bL b)) (hm9 : m ≤ 90000) : Calls Tryz.prog 24 #[.int .i64 k, .slice B m d] w0 fun e w' => ∃ u, e = .returned u ∧ Like w0 w' ∧ u = .tuple #[.agg (bA (nameI k b)), .int .i64 (objE k b)] := by
  by_cases he : objE k b = 0
  · exact rname1 k B m d b w0 hb hm9 he
  · exact rname0 k B m d b w0 hb hm9 he
theorem id_whole {l : List UInt8} (h : l.length = 32) : ((bA l).toList.drop 0).take 32 = bL l ∧ (bL l).length = 32 := by
  refine ⟨?_, by rw [length_bL, h]⟩
  rw [List.drop_zero]
  exact List.take_of_length_le (by show (bL l).length ≤ 32; rw [length_bL, h]; exact Nat.le_refl _)


set_option maxRecDepth 100000 in
theorem lnames1 (k : Int) (B : Option Addr) (m d : Nat) (b : List UInt8) (w0 : World) (hb : Rs w0 1 B m d (bL b)) (he : objE k b = 0) :
    Calls Tryz.prog 5 #[.int .i64 k, .slice B m d] w0 fun e w' => ∃ u, e = .returned u ∧ Like w0 w' ∧ u = .bool true := by
  refine enter1 (env := [(0, .int .i64 k), (1, .slice B m d)]) [.int .i64 k, .slice B m d] Tryz.func5 rfl Tryz.ntmps5 rfl rfl ?_
  have hl := hb.lenb; have hcap := hb.cap; have hmax := hb.max
  have hol := objB_len he
  have S0 := St.start w0 noM
  refine T_seq fun K1 hK1 => ?_
  refine T_region ?_
  refine L_y (y_assign rfl) rfl ?_
  refine L_nil ?_
  refine hK1 _ _ ?_
  refine T_seq fun K2 hK2 => ?_
  refine T_seq fun K3 hK3 => ?_
  refine T_region ?_
  refine L_y (y_move rfl) rfl ?_
  refine L_y (y_len Tryz.underlying22 rfl) rfl ?_
  refine L_y (y_gtr rfl rfl) rfl ?_
  refine L_nil ?_
  refine hK3 _ _ ?_
  refine T_cond rfl (fun h13 => ?_) (fun h13 => ?_)
  ·
    refine T_seq fun K4 hK4 => ?_
    refine T_region ?_
    refine L_o (o_call Tryz.func11 rfl rfl (works8 w0) rfl rfl ?_)
    rintro e1 w1 ⟨v1, rfl, l1, rfl⟩
    refine ⟨_, rfl, ?_⟩
    have S1 := S0.like l1
    refine L_y (y_assign rfl) rfl ?_
    refine L_nil ?_
    refine hK4 _ _ ?_
    refine T_ret ?_
    repeat (first | with_reducible refine up_then ?_ | with_reducible refine up_in ?_)
    refine ret1 rfl rfl ?_
    exact ⟨_, rfl, S1.like0, rfl⟩
  ·
    refine T_skip ?_
    refine hK2 _ _ ?_
    refine T_seq fun K5 hK5 => ?_
    refine T_region ?_
    refine L_y (y_move rfl) rfl ?_
    refine L_y (y_move rfl) rfl ?_
    refine L_o (o_call Tryz.func23 rfl rfl (name_ k B m d b w0 (S0.rd hb) (by omega)) rfl rfl ?_)
    rintro e2 w2 ⟨v2, rfl, l2, rfl⟩
    refine ⟨_, rfl, ?_⟩
    have S2 := S0.like l2
    refine L_y (y_move rfl) rfl ?_
    refine L_y (y_extract rfl rfl) rfl ?_
    refine L_y (y_extract rfl rfl) rfl ?_
    refine L_o (o_alloc zz41 S2 rfl fun b3 w3 hb3 S3 => ?_)
    refine L_o (o_stW S3 0 rfl rfl rfl (by rw [size_bA, nameI_len]; exact sz41) (by first | (rw [size_bA, nameI_len]; rfl) | (rw [size_bA, size_bA, nameI_len]; rfl)) (Sha.bA_one _) fun w4 S4 => ?_)
    refine L_y (y_assign rfl) rfl ?_
    refine L_nil ?_
    refine hK5 _ _ ?_
    refine T_seq fun K6 hK6 => ?_
    refine T_region ?_
    refine L_y (y_move rfl) rfl ?_
    refine L_y (y_move rfl) rfl ?_
    refine L_o (o_call Tryz.func24 rfl rfl (rname_ k B m d b w4 (S4.rd hb) (by omega)) rfl rfl ?_)
    rintro e5 w5 ⟨v5, rfl, l5, rfl⟩
    refine ⟨_, rfl, ?_⟩
    have S5 := S4.like l5
    refine L_y (y_move rfl) rfl ?_
    refine L_y (y_extract rfl rfl) rfl ?_
    refine L_y (y_extract rfl rfl) rfl ?_
    refine L_o (o_alloc zz41 S5 rfl fun b6 w6 hb6 S6 => ?_)
    refine L_o (o_stW S6 1 rfl rfl rfl (by rw [size_bA, nameI_len]; exact sz41) (by first | (rw [size_bA, nameI_len]; rfl) | (rw [size_bA, size_bA, nameI_len]; rfl)) (Sha.bA_one _) fun w7 S7 => ?_)
    refine L_y (y_assign rfl) rfl ?_
    refine L_nil ?_
    refine hK6 _ _ ?_
    refine T_seq fun K7 hK7 => ?_
    refine T_region ?_
    refine L_y (y_move rfl) rfl ?_
    refine L_y (y_move rfl) rfl ?_
    refine L_o (o_call Tryz.func12 rfl rfl (bytesGood k B m d b w7 (S7.rd hb) (by omega) he) rfl rfl ?_)
    rintro e8 w8 ⟨v8, rfl, l8, A30, c30, rfl, F8⟩
    refine ⟨_, rfl, ?_⟩
    have S8 := S7.adoptF l8 F8
    refine L_y (y_move rfl) rfl ?_
    refine L_y (y_extract rfl rfl) rfl ?_
    refine L_y (y_extract rfl rfl) rfl ?_
    refine L_y (y_assign rfl) rfl ?_
    refine L_y (y_assign rfl) rfl ?_
    refine L_nil ?_
    refine hK7 _ _ ?_
    refine T_seq fun K8 hK8 => ?_
    refine T_seq fun K9 hK9 => ?_
    refine T_region ?_
    refine L_y (y_ldW Tryz.underlying41 rfl sz41 rfl (S8.blk 0 rfl) (id_whole (nameI_len k b))) rfl ?_
    refine L_y (y_ldW Tryz.underlying41 rfl sz41 rfl (S8.blk 1 rfl) (id_whole (nameI_len k b))) rfl ?_
    refine L_y (y_neB Tryz.underlying41 Tryz.underlying5 sz5 (by kernel_rfl) rfl rfl (nameI_len k b) (nameI_len k b)) rfl ?_
    refine L_y (y_move rfl) rfl ?_
    refine L_split 36 rfl (fun h36 => ?_) (fun h36 => ?_)
    ·
      first | exact absurd rfl h36 | exact absurd he h36
    ·
      refine L_gyes rfl rfl ?_
      refine L_y (y_move rfl) rfl ?_
      refine L_gyes rfl rfl ?_
      refine L_y (y_move rfl) rfl ?_
      refine L_gyes rfl rfl ?_
      refine L_y (y_neq rfl rfl) rfl ?_
      refine L_y ((by first | exact y_pickT rfl rfl | exact y_pickF rfl rfl)) rfl ?_
      refine L_y (y_move rfl) rfl ?_
      refine L_split 41 rfl (fun h41 => ?_) (fun h41 => ?_)
      ·
        first | exact absurd rfl h41 | exact absurd he h41
      ·
        refine L_gyes rfl rfl ?_
        refine L_y (y_move rfl) rfl ?_
        refine L_gyes rfl rfl ?_
        refine L_y (y_move rfl) rfl ?_
        refine L_gyes rfl rfl ?_
        refine L_y (y_neq rfl rfl) rfl ?_
        refine L_y ((by first | exact y_pickT rfl rfl | exact y_pickF rfl rfl)) rfl ?_
        refine L_nil ?_
        refine hK9 _ _ ?_
        refine T_cond rfl (fun h45 => ?_) (fun h45 => ?_)
        ·
          first | exact absurd rfl h45 | exact absurd he h45
        ·
          refine T_skip ?_
          refine hK8 _ _ ?_
          refine T_seq fun K10 hK10 => ?_
          refine T_drawnL [(0, true), (1, true), (2, true), (3, true), (4, true), (5, false), (6, true), (7, true), (8, true), (9, false), (10, true), (11, true)] hmix (by kernel_rfl) fun w11 l11 => ?_
          have S11 := S8.like l11
          refine DL_y rfl (y_move rfl) rfl ?_
          refine DL_y rfl (y_neq rfl rfl) rfl ?_
          refine DL_y rfl (y_move rfl) rfl ?_
          refine DL_split 48 rfl (fun h48 => ?_) (fun h48 => ?_)
          ·
            exact absurd he h48
          ·
            refine DL_gyes rfl rfl rfl (y_ldW Tryz.underlying41 rfl sz41 rfl (S11.blk 0 rfl) (id_whole (nameI_len k b))) rfl ?_
            refine DL_gyes rfl rfl rfl (y_move rfl) rfl ?_
            refine DL_ogyes rfl rfl rfl (o_call Tryz.func25 rfl rfl (Sha.refof (objB k b) _ _ _ w11 (S11.fix 2 rfl) (by omega)) rfl rfl ?_)
            rintro e12 w12 ⟨v12, rfl, l12, rfl⟩
            refine ⟨_, rfl, l12, ?_⟩
            have S12 := S11.like l12
            have q12 := l12
            refine DL_gyes rfl rfl rfl (y_eqB Tryz.underlying41 Tryz.underlying5 sz5 (by kernel_rfl) rfl rfl (nameI_len k b) (Sha.length_ofL _)) rfl ?_
            refine DL_y rfl ((by first | exact y_pickT rfl rfl | exact y_pickF rfl rfl)) rfl ?_
            refine DL_y rfl (y_move rfl) rfl ?_
            refine DL_split 54 rfl (fun h54 => ?_) (fun h54 => ?_)
            ·
              refine DL_ogyes rfl rfl rfl (o_call Tryz.func11 rfl rfl (works8 w12) rfl rfl ?_)
              rintro e13 w13 ⟨v13, rfl, l13, rfl⟩
              refine ⟨_, rfl, (Like.trans q12 l13), ?_⟩
              have S13 := S12.like l13
              have q13 := (Like.trans q12 l13)
              refine DL_y rfl ((by first | exact y_pickT rfl rfl | exact y_pickF rfl rfl)) rfl ?_
              refine DL_y rfl (y_assign rfl) rfl ?_
              refine DL_nil ?_
              refine hK10 _ _ ?_
              refine T_ret ?_
              repeat (first | with_reducible refine up_then ?_ | with_reducible refine up_in ?_)
              refine ret1 rfl rfl ?_
              exact ⟨_, rfl, S13.like0, rfl⟩
            ·
              exact absurd (nameI_ok he) h54


set_option maxRecDepth 100000 in
theorem lnames0 (k : Int) (B : Option Addr) (m d : Nat) (b : List UInt8) (w0 : World) (hb : Rs w0 1 B m d (bL b)) (he : objE k b ≠ 0) :
    Calls Tryz.prog 5 #[.int .i64 k, .slice B m d] w0 fun e w' => ∃ u, e = .returned u ∧ Like w0 w' ∧ u = .bool true := by
  refine enter1 (env := [(0, .int .i64 k), (1, .slice B m d)]) [.int .i64 k, .slice B m d] Tryz.func5 rfl Tryz.ntmps5 rfl rfl ?_
  have hl := hb.lenb; have hcap := hb.cap; have hmax := hb.max
  have S0 := St.start w0 noM
  refine T_seq fun K1 hK1 => ?_
  refine T_region ?_
  refine L_y (y_assign rfl) rfl ?_
  refine L_nil ?_
  refine hK1 _ _ ?_
  refine T_seq fun K2 hK2 => ?_
  refine T_seq fun K3 hK3 => ?_
  refine T_region ?_
  refine L_y (y_move rfl) rfl ?_
  refine L_y (y_len Tryz.underlying22 rfl) rfl ?_
  refine L_y (y_gtr rfl rfl) rfl ?_
  refine L_nil ?_
  refine hK3 _ _ ?_
  refine T_cond rfl (fun h13 => ?_) (fun h13 => ?_)
  ·
    refine T_seq fun K4 hK4 => ?_
    refine T_region ?_
    refine L_o (o_call Tryz.func11 rfl rfl (works8 w0) rfl rfl ?_)
    rintro e1 w1 ⟨v1, rfl, l1, rfl⟩
    refine ⟨_, rfl, ?_⟩
    have S1 := S0.like l1
    refine L_y (y_assign rfl) rfl ?_
    refine L_nil ?_
    refine hK4 _ _ ?_
    refine T_ret ?_
    repeat (first | with_reducible refine up_then ?_ | with_reducible refine up_in ?_)
    refine ret1 rfl rfl ?_
    exact ⟨_, rfl, S1.like0, rfl⟩
  ·
    refine T_skip ?_
    refine hK2 _ _ ?_
    refine T_seq fun K5 hK5 => ?_
    refine T_region ?_
    refine L_y (y_move rfl) rfl ?_
    refine L_y (y_move rfl) rfl ?_
    refine L_o (o_call Tryz.func23 rfl rfl (name_ k B m d b w0 (S0.rd hb) (by omega)) rfl rfl ?_)
    rintro e2 w2 ⟨v2, rfl, l2, rfl⟩
    refine ⟨_, rfl, ?_⟩
    have S2 := S0.like l2
    refine L_y (y_move rfl) rfl ?_
    refine L_y (y_extract rfl rfl) rfl ?_
    refine L_y (y_extract rfl rfl) rfl ?_
    refine L_o (o_alloc zz41 S2 rfl fun b3 w3 hb3 S3 => ?_)
    refine L_o (o_stW S3 0 rfl rfl rfl (by rw [size_bA, nameI_len]; exact sz41) (by first | (rw [size_bA, nameI_len]; rfl) | (rw [size_bA, size_bA, nameI_len]; rfl)) (Sha.bA_one _) fun w4 S4 => ?_)
    refine L_y (y_assign rfl) rfl ?_
    refine L_nil ?_
    refine hK5 _ _ ?_
    refine T_seq fun K6 hK6 => ?_
    refine T_region ?_
    refine L_y (y_move rfl) rfl ?_
    refine L_y (y_move rfl) rfl ?_
    refine L_o (o_call Tryz.func24 rfl rfl (rname_ k B m d b w4 (S4.rd hb) (by omega)) rfl rfl ?_)
    rintro e5 w5 ⟨v5, rfl, l5, rfl⟩
    refine ⟨_, rfl, ?_⟩
    have S5 := S4.like l5
    refine L_y (y_move rfl) rfl ?_
    refine L_y (y_extract rfl rfl) rfl ?_
    refine L_y (y_extract rfl rfl) rfl ?_
    refine L_o (o_alloc zz41 S5 rfl fun b6 w6 hb6 S6 => ?_)
    refine L_o (o_stW S6 1 rfl rfl rfl (by rw [size_bA, nameI_len]; exact sz41) (by first | (rw [size_bA, nameI_len]; rfl) | (rw [size_bA, size_bA, nameI_len]; rfl)) (Sha.bA_one _) fun w7 S7 => ?_)
    refine L_y (y_assign rfl) rfl ?_
    refine L_nil ?_
    refine hK6 _ _ ?_
    refine T_seq fun K7 hK7 => ?_
    refine T_region ?_
    refine L_y (y_move rfl) rfl ?_
    refine L_y (y_move rfl) rfl ?_
    refine L_o (o_call Tryz.func12 rfl rfl (bytesBad k B m d b w7 (S7.rd hb) (by omega) he) rfl rfl ?_)
    rintro e8 w8 ⟨v8, rfl, l8, rfl⟩
    refine ⟨_, rfl, ?_⟩
    have S8 := S7.like l8
    refine L_y (y_move rfl) rfl ?_
    refine L_y (y_extract rfl rfl) rfl ?_
    refine L_y (y_extract rfl rfl) rfl ?_
    refine L_y (y_assign rfl) rfl ?_
    refine L_y (y_assign rfl) rfl ?_
    refine L_nil ?_
    refine hK7 _ _ ?_
    refine T_seq fun K8 hK8 => ?_
    refine T_seq fun K9 hK9 => ?_
    refine T_region ?_
    refine L_y (y_ldW Tryz.underlying41 rfl sz41 rfl (S8.blk 0 rfl) (id_whole (nameI_len k b))) rfl ?_
    refine L_y (y_ldW Tryz.underlying41 rfl sz41 rfl (S8.blk 1 rfl) (id_whole (nameI_len k b))) rfl ?_
    refine L_y (y_neB Tryz.underlying41 Tryz.underlying5 sz5 (by kernel_rfl) rfl rfl (nameI_len k b) (nameI_len k b)) rfl ?_
    refine L_y (y_move rfl) rfl ?_
    refine L_split 36 rfl (fun h36 => ?_) (fun h36 => ?_)
    ·
      first | exact absurd rfl h36 | exact absurd he h36
    ·
      refine L_gyes rfl rfl ?_
      refine L_y (y_move rfl) rfl ?_
      refine L_gyes rfl rfl ?_
      refine L_y (y_move rfl) rfl ?_
      refine L_gyes rfl rfl ?_
      refine L_y (y_neq rfl rfl) rfl ?_
      refine L_y ((by first | exact y_pickT rfl rfl | exact y_pickF rfl rfl)) rfl ?_
      refine L_y (y_move rfl) rfl ?_
      refine L_split 41 rfl (fun h41 => ?_) (fun h41 => ?_)
      ·
        first | exact absurd rfl h41 | exact absurd he h41
      ·
        refine L_gyes rfl rfl ?_
        refine L_y (y_move rfl) rfl ?_
        refine L_gyes rfl rfl ?_
        refine L_y (y_move rfl) rfl ?_
        refine L_gyes rfl rfl ?_
        refine L_y (y_neq rfl rfl) rfl ?_
        refine L_y ((by first | exact y_pickT rfl rfl | exact y_pickF rfl rfl)) rfl ?_
        refine L_nil ?_
        refine hK9 _ _ ?_
        refine T_cond rfl (fun h45 => ?_) (fun h45 => ?_)
        ·
          first | exact absurd rfl h45 | exact absurd he h45
        ·
          refine T_skip ?_
          refine hK8 _ _ ?_
          refine T_seq fun K10 hK10 => ?_
          refine T_drawnL [(0, true), (1, true), (2, true), (3, true), (4, true), (5, false), (6, true), (7, true), (8, true), (9, false), (10, true), (11, true)] hmix (by kernel_rfl) fun w11 l11 => ?_
          have S11 := S8.like l11
          refine DL_y rfl (y_move rfl) rfl ?_
          refine DL_y rfl (y_neq rfl rfl) rfl ?_
          refine DL_y rfl (y_move rfl) rfl ?_
          refine DL_split 48 rfl (fun h48 => ?_) (fun h48 => ?_)
          ·
            refine DL_gno rfl rfl rfl rfl ?_
            refine DL_gno rfl rfl rfl rfl ?_
            refine DL_ogno rfl rfl rfl rfl ?_
            refine DL_gno rfl rfl rfl rfl ?_
            refine DL_y rfl ((by first | exact y_pickT rfl rfl | exact y_pickF rfl rfl)) rfl ?_
            refine DL_y rfl (y_move rfl) rfl ?_
            refine DL_ogyes rfl rfl rfl (o_call Tryz.func11 rfl rfl (works8 w11) rfl rfl ?_)
            rintro e12 w12 ⟨v12, rfl, l12, rfl⟩
            refine ⟨_, rfl, l12, ?_⟩
            have S12 := S11.like l12
            have q12 := l12
            refine DL_y rfl ((by first | exact y_pickT rfl rfl | exact y_pickF rfl rfl)) rfl ?_
            refine DL_y rfl (y_assign rfl) rfl ?_
            refine DL_nil ?_
            refine hK10 _ _ ?_
            refine T_ret ?_
            repeat (first | with_reducible refine up_then ?_ | with_reducible refine up_in ?_)
            refine ret1 rfl rfl ?_
            exact ⟨_, rfl, S12.like0, rfl⟩
          ·
            exact absurd he h48


theorem lnames_law (k : Int) (B : Option Addr) (m d : Nat) (b : List UInt8) (w0 : World) (hb : Rs w0 1 B m d (bL b)) :
    Calls Tryz.prog 5 #[.int .i64 k, .slice B m d] w0 fun e w' => e = .returned (.bool true) ∧ Below w0.heap.size w0 w' := by
  by_cases he : objE k b = 0
  · exact (lnames1 k B m d b w0 hb he).mono fun e w' ⟨u, h1, h2, h3⟩ => by subst h3; exact ⟨h1, h2⟩
  · exact (lnames0 k B m d b w0 hb he).mono fun e w' ⟨u, h1, h2, h3⟩ => by subst h3; exact ⟨h1, h2⟩
end Go.Proofs.YtgaklngnfecdaaaGreat.Obj
