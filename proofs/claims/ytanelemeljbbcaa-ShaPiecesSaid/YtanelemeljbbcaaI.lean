/-
  A state and a block, by the code.
-/
import Derived.Test.YtanelemeljbbcaaH
namespace Go.Proofs.Ytanelemeljbbcaa
open Go.RowKit Zk Zx
set_option linter.unusedVariables false
set_option linter.unusedSimpArgs false

theorem uA_one (l : List UInt32) : ∀ u ∈ (uA l).toList, u.oneCell' = true := uL_one l
theorem list_8 (u : Go.Proofs.Ytanelemeljbbcaa.St) : u.list.length = 8 := by simp [Go.Proofs.Ytanelemeljbbcaa.St.list]
theorem list_len (u v : Go.Proofs.Ytanelemeljbbcaa.St) : u.list.length = v.list.length := by rw [list_8, list_8]
/-- The first i sums, then the rest as it was. -/
def addU (x y : List UInt32) (i : Nat) : List UInt32 := (List.zipWith (· + ·) x y).take i ++ x.drop i
theorem length_addU (x y : List UInt32) (h : x.length = y.length) (i : Nat) : (addU x y i).length = x.length := by
  simp [addU]; omega
theorem addU_get (x y : List UInt32) (i : Nat) (h : i < x.length) (hxy : x.length = y.length) : (uA (addU x y i))[i]? = some (uV (x.getD i 0)) := by
  rw [uA_get' _ _ (by rw [length_addU _ _ hxy]; exact h)]
  congr 2
  simp only [List.getD_eq_getElem?_getD, addU]
  rw [List.getElem?_append_right (by simp; omega)]
  have e : i - ((List.zipWith (· + ·) x y).take i).length = 0 := by simp; omega
  rw [e, List.getElem?_drop, Nat.add_zero]
theorem addU_set (x y : List UInt32) (i : Nat) (hxy : x.length = y.length) (h : i < x.length) : (uA (addU x y i)).setIfInBounds i (.int .u32 (N (x.getD i 0 + y.getD i 0))) = uA (addU x y (i + 1)) := by
  rw [uA_set]
  congr 1
  unfold addU
  rw [List.set_append_right _ _ (by simp; omega)]
  have e : i - ((List.zipWith (· + ·) x y).take i).length = 0 := by simp; omega
  rw [e, List.drop_eq_getElem_cons h, List.set_cons_zero, List.take_succ_eq_append_getElem (by simp; omega)]
  simp [List.getD_eq_getElem?_getD, List.getElem?_eq_getElem h, List.getElem?_eq_getElem (show i < y.length by omega)]
theorem blockS_list (v : Go.Proofs.Ytanelemeljbbcaa.St) (b : List UInt8) : addU (rounds (sched b 64) v 64).list v.list 8 = (blockS v b).list := rfl


set_option maxRecDepth 100000 in
set_option maxHeartbeats 2000000 in
theorem mix (v : Go.Proofs.Ytanelemeljbbcaa.St) (b : List UInt8) (B : Option Addr) (n cb : Nat) (hn : n = 64) (w0 : World) (hb : Rs w0 1 B n cb (bL b)) :
    Calls Try.prog 21 #[.agg (uA v.list), .slice B n cb] w0 fun e w' => ∃ u, e = .returned u ∧ Like w0 w' ∧ u = .agg (uA (blockS v b).list) := by
  refine enter1 (env := [(0, .agg (uA v.list)), (1, .slice B n cb)]) [.agg (uA v.list), .slice B n cb] Try.func21 rfl Try.ntmps21 rfl rfl ?_
  have S0 := St.start w0 noM
  refine T_seq fun K1 hK1 => ?_
  refine T_region ?_
  refine L_o (o_box rfl S0 rfl fun b1 w1 hb1 S1 => ?_)
  refine L_o (o_alloc zz35 S1 rfl fun b2 w2 hb2 S2 => ?_)
  refine L_nil ?_
  refine hK1 _ _ ?_
  refine T_seq fun K2 hK2 => ?_
  refine T_region ?_
  refine L_o (o_call Try.func24 rfl rfl (belowC (constants_any _)) rfl rfl ?_)
  rintro e3 w3 ⟨v3, rfl, l3, rfl⟩
  refine ⟨_, rfl, ?_⟩
  have S3 := S2.like l3
  refine L_o (o_alloc zz54 S3 rfl fun b4 w4 hb4 S4 => ?_)
  refine L_o (o_stW S4 2 rfl rfl rfl (by rw [size_uA, show kL.length = 64 from rfl]; exact sz54) (by rw [size_uA, show kL.length = 64 from rfl]; simp [Value.cells]) (by first | exact uA_one _ | exact uL_one _ | exact bL_one _ | exact iL_one _ | (intro u hu; simp at hu; subst hu; rfl) | (simp; done) | (simp [Value.oneCell']; done)) fun w5 S5 => ?_)
  refine L_nil ?_
  refine hK2 _ _ ?_
  refine T_seq fun K3 hK3 => ?_
  refine T_region ?_
  refine L_y (y_move rfl) rfl ?_
  refine L_o (o_call Try.func25 rfl rfl (spread b B n cb hn _ (S5.rd hb)) rfl rfl ?_)
  rintro e6 w6 ⟨v6, rfl, l6, rfl⟩
  refine ⟨_, rfl, ?_⟩
  have S6 := S5.like l6
  have hSl : (sched b 64).length = 64 := length_sched b 64
  have hl0 := blockS_list v b
  generalize hSS : sched b 64 = SS at hSl hl0 ⊢
  refine L_o (o_alloc zz54 S6 rfl fun b7 w7 hb7 S7 => ?_)
  refine L_o (o_stW S7 3 rfl rfl rfl (by rw [size_uA, hSl]; exact sz54) (by rw [size_uA, hSl]; simp [Value.cells]) (by first | exact uA_one _ | exact uL_one _ | exact bL_one _ | exact iL_one _ | (intro u hu; simp at hu; subst hu; rfl) | (simp; done) | (simp [Value.oneCell']; done)) fun w8 S8 => ?_)
  refine L_nil ?_
  refine hK3 _ _ ?_
  refine T_seq fun K4 hK4 => ?_
  refine T_region ?_
  refine L_y (y_ldW Try.underlying35 rfl sz35 rfl (S8.blk 0 rfl) ⟨(rfl : _ = uL v.list), rfl⟩) rfl ?_
  refine L_o (o_alloc zz35 S8 rfl fun b9 w9 hb9 S9 => ?_)
  refine L_o (o_stW S9 4 rfl rfl rfl (by exact sz35) (by simp [Go.Proofs.Ytanelemeljbbcaa.St.list, Value.cells]) (uL_one _) fun w10 S10 => ?_)
  refine L_nil ?_
  refine hK4 _ _ ?_
  refine T_seq fun K5 hK5 => ?_
  refine T_seq fun K6 hK6 => ?_
  refine T_region ?_
  refine L_y (y_move rfl) rfl ?_
  refine L_nil ?_
  refine hK6 _ _ ?_
  refine T_block ?_
  refine T_loop1 [(2, _), (4, _), (5, _), (6, _), (7, _)] (fun (t : Nat) => [(18, .int .i64 (t : Int))]) (fun (t : Nat) => 64 - t) (fun (t : Nat) (w : World) => t ≤ 64 ∧ Zx.St w0 noM [blk b1 35 (uA v.list), blk b2 35 (uA z8), blk b4 54 (uA kL), blk b7 54 (uA SS), blk b9 35 (uA (rounds SS v t).list)] w) 0 (Sub.cons rfl (by first | rfl | exact congrArg (Value.int _) (by omega)) (Sub.nil _)) (Sub.cons rfl rfl (Sub.cons rfl rfl (Sub.cons rfl rfl (Sub.cons rfl rfl (Sub.cons rfl rfl (Sub.nil _)))))) ?_ ?_
  ·
    exact ⟨by omega, S10⟩
  ·
    intro t w11 hrel
    obtain ⟨ht, S11⟩ := hrel
    refine T_seq fun K7 hK7 => ?_
    refine T_region ?_
    refine L_y (y_lss rfl rfl) rfl ?_
    refine L_nil ?_
    refine hK7 _ _ ?_
    refine T_seq fun K8 hK8 => ?_
    refine T_cond rfl (fun h19 => ?_) (fun h19 => ?_)
    ·
      refine T_skip ?_
      refine hK8 _ _ ?_
      refine T_seq fun K9 hK9 => ?_
      refine T_block ?_
      refine T_seq fun K10 hK10 => ?_
      refine T_region ?_
      refine L_y (y_move rfl) rfl ?_
      refine L_y (y_assign rfl) rfl ?_
      refine L_nil ?_
      refine hK10 _ _ ?_
      refine T_seq fun K11 hK11 => ?_
      refine T_drawnL [(0, true), (1, true), (2, true), (3, true), (4, true), (5, true)] hmix (by kernel_rfl) fun w12 l12 => ?_
      have S12 := S11.like l12
      refine DL_y rfl (y_idxA0 Try.underlying35 sz34 rfl rfl inferInstance (by omega)) rfl ?_
      refine DL_y rfl (y_ldc Try.underlying34 rfl rfl (((S12.blk 4 rfl).cell _).trans (show _ = some (uV (rounds SS v t).e) from rfl))) rfl ?_
      refine DL_y rfl (y_idxA0 Try.underlying35 sz34 rfl rfl inferInstance (by omega)) rfl ?_
      refine DL_y rfl (y_ldc Try.underlying34 rfl rfl (((S12.blk 4 rfl).cell _).trans (show _ = some (uV (rounds SS v t).a) from rfl))) rfl ?_
      refine DL_y rfl (y_assign rfl) rfl ?_
      refine DL_y rfl (y_assign rfl) rfl ?_
      refine DL_nil ?_
      refine hK11 _ _ ?_
      refine T_seq fun K12 hK12 => ?_
      refine T_drawnL [(0, true), (1, true), (2, true), (4, true), (7, true), (11, true), (12, true), (13, true), (14, true), (15, true), (16, true), (17, true), (18, true), (19, true), (20, true), (22, true), (23, true), (24, true), (26, true), (27, true), (28, true), (3, false), (5, false), (6, true), (8, false), (9, true), (10, true), (21, true), (25, true), (29, true), (30, true)] hmix (by kernel_rfl) fun w13 l13 => ?_
      have S13 := S12.like l13
      refine DL_y rfl (y_idxA0 Try.underlying35 sz34 rfl rfl inferInstance (by omega)) rfl ?_
      refine DL_y rfl (y_ldc Try.underlying34 rfl rfl (((S13.blk 4 rfl).cell _).trans (show _ = some (uV (rounds SS v t).h) from rfl))) rfl ?_
      refine DL_y rfl (y_move rfl) rfl ?_
      refine DL_y rfl (y_move rfl) rfl ?_
      refine DL_y rfl (y_move rfl) rfl ?_
      refine DL_y rfl (y_move rfl) rfl ?_
      refine DL_y rfl (y_idxA0 Try.underlying35 sz34 rfl rfl inferInstance (by omega)) rfl ?_
      refine DL_y rfl (y_ldc Try.underlying34 rfl rfl (((S13.blk 4 rfl).cell _).trans (show _ = some (uV (rounds SS v t).f) from rfl))) rfl ?_
      refine DL_y rfl (y_bits rfl rfl rfl (andN _ _)) rfl ?_
      refine DL_y rfl (y_move rfl) rfl ?_
      refine DL_y rfl (y_inv rfl (notN _)) rfl ?_
      refine DL_y rfl (y_idxA0 Try.underlying35 sz34 rfl rfl inferInstance (by omega)) rfl ?_
      refine DL_y rfl (y_ldc Try.underlying34 rfl rfl (((S13.blk 4 rfl).cell _).trans (show _ = some (uV (rounds SS v t).g) from rfl))) rfl ?_
      refine DL_y rfl (y_bits rfl rfl rfl (andN _ _)) rfl ?_
      refine DL_y rfl (y_bits rfl rfl rfl (xorN _ _)) rfl ?_
      refine DL_y rfl (y_move rfl) rfl ?_
      refine DL_y rfl (y_idxA0 Try.underlying54 sz34 rfl rfl inferInstance (by omega)) rfl ?_
      refine DL_y rfl (y_ldc Try.underlying34 rfl rfl (((S13.blk 2 rfl).cell _).trans (uA_get' _ _ (by show t < 64; omega)))) rfl ?_
      refine DL_y rfl (y_move rfl) rfl ?_
      refine DL_y rfl (y_idxA0 Try.underlying54 sz34 rfl rfl inferInstance (by omega)) rfl ?_
      refine DL_y rfl (y_ldc Try.underlying34 rfl rfl (((S13.blk 3 rfl).cell _).trans (uA_get' _ _ (by rw [hSl]; omega)))) rfl ?_
      refine DL_o rfl (o_call Try.func26 rfl rfl (pureC (rotl6 _ _)) rfl rfl ?_)
      rintro e14 w14 ⟨v14, rfl, l14, rfl⟩
      refine ⟨_, rfl, l14, ?_⟩
      have S14 := S13.like l14
      have q14 := l14
      refine DL_o rfl (o_call Try.func26 rfl rfl (pureC (rotl11 _ _)) rfl rfl ?_)
      rintro e15 w15 ⟨v15, rfl, l15, rfl⟩
      refine ⟨_, rfl, (Like.trans q14 l15), ?_⟩
      have S15 := S14.like l15
      have q15 := (Like.trans q14 l15)
      refine DL_y rfl (y_bits rfl rfl rfl (xorN _ _)) rfl ?_
      refine DL_o rfl (o_call Try.func26 rfl rfl (pureC (rotl25 _ _)) rfl rfl ?_)
      rintro e16 w16 ⟨v16, rfl, l16, rfl⟩
      refine ⟨_, rfl, (Like.trans q15 l16), ?_⟩
      have S16 := S15.like l16
      have q16 := (Like.trans q15 l16)
      refine DL_y rfl (y_bits rfl rfl rfl (xorN _ _)) rfl ?_
      refine DL_y rfl (y_add rfl rfl (addW _ _)) rfl ?_
      refine DL_y rfl (y_add rfl rfl (addW _ _)) rfl ?_
      refine DL_y rfl (y_add rfl rfl (addW _ _)) rfl ?_
      refine DL_y rfl (y_add rfl rfl (addW _ _)) rfl ?_
      refine DL_y rfl (y_assign rfl) rfl ?_
      refine DL_nil ?_
      refine hK12 _ _ ?_
      refine T_seq fun K13 hK13 => ?_
      refine T_drawnL [(0, true), (2, true), (5, true), (8, true), (9, true), (10, true), (11, true), (12, true), (13, true), (14, true), (15, true), (16, true), (17, true), (18, true), (19, true), (20, true), (21, true), (22, true), (1, false), (3, false), (4, true), (6, false), (7, true), (23, true), (24, true)] hmix (by kernel_rfl) fun w17 l17 => ?_
      have S17 := S16.like l17
      refine DL_y rfl (y_move rfl) rfl ?_
      refine DL_y rfl (y_move rfl) rfl ?_
      refine DL_y rfl (y_move rfl) rfl ?_
      refine DL_y rfl (y_move rfl) rfl ?_
      refine DL_y rfl (y_idxA0 Try.underlying35 sz34 rfl rfl inferInstance (by omega)) rfl ?_
      refine DL_y rfl (y_ldc Try.underlying34 rfl rfl (((S17.blk 4 rfl).cell _).trans (show _ = some (uV (rounds SS v t).b) from rfl))) rfl ?_
      refine DL_y rfl (y_bits rfl rfl rfl (andN _ _)) rfl ?_
      refine DL_y rfl (y_move rfl) rfl ?_
      refine DL_y rfl (y_idxA0 Try.underlying35 sz34 rfl rfl inferInstance (by omega)) rfl ?_
      refine DL_y rfl (y_ldc Try.underlying34 rfl rfl (((S17.blk 4 rfl).cell _).trans (show _ = some (uV (rounds SS v t).c) from rfl))) rfl ?_
      refine DL_y rfl (y_bits rfl rfl rfl (andN _ _)) rfl ?_
      refine DL_y rfl (y_bits rfl rfl rfl (xorN _ _)) rfl ?_
      refine DL_y rfl (y_idxA0 Try.underlying35 sz34 rfl rfl inferInstance (by omega)) rfl ?_
      refine DL_y rfl (y_ldc Try.underlying34 rfl rfl (((S17.blk 4 rfl).cell _).trans (show _ = some (uV (rounds SS v t).b) from rfl))) rfl ?_
      refine DL_y rfl (y_idxA0 Try.underlying35 sz34 rfl rfl inferInstance (by omega)) rfl ?_
      refine DL_y rfl (y_ldc Try.underlying34 rfl rfl (((S17.blk 4 rfl).cell _).trans (show _ = some (uV (rounds SS v t).c) from rfl))) rfl ?_
      refine DL_y rfl (y_bits rfl rfl rfl (andN _ _)) rfl ?_
      refine DL_y rfl (y_bits rfl rfl rfl (xorN _ _)) rfl ?_
      refine DL_o rfl (o_call Try.func26 rfl rfl (pureC (rotl2 _ _)) rfl rfl ?_)
      rintro e18 w18 ⟨v18, rfl, l18, rfl⟩
      refine ⟨_, rfl, l18, ?_⟩
      have S18 := S17.like l18
      have q18 := l18
      refine DL_o rfl (o_call Try.func26 rfl rfl (pureC (rotl13 _ _)) rfl rfl ?_)
      rintro e19 w19 ⟨v19, rfl, l19, rfl⟩
      refine ⟨_, rfl, (Like.trans q18 l19), ?_⟩
      have S19 := S18.like l19
      have q19 := (Like.trans q18 l19)
      refine DL_y rfl (y_bits rfl rfl rfl (xorN _ _)) rfl ?_
      refine DL_o rfl (o_call Try.func26 rfl rfl (pureC (rotl22 _ _)) rfl rfl ?_)
      rintro e20 w20 ⟨v20, rfl, l20, rfl⟩
      refine ⟨_, rfl, (Like.trans q19 l20), ?_⟩
      have S20 := S19.like l20
      have q20 := (Like.trans q19 l20)
      refine DL_y rfl (y_bits rfl rfl rfl (xorN _ _)) rfl ?_
      refine DL_y rfl (y_add rfl rfl (addW _ _)) rfl ?_
      refine DL_y rfl (y_assign rfl) rfl ?_
      refine DL_nil ?_
      refine hK13 _ _ ?_
      refine T_region ?_
      refine L_y (y_move rfl) rfl ?_
      refine L_y (y_move rfl) rfl ?_
      refine L_y (y_add rfl rfl (addW _ _)) rfl ?_
      refine L_y (y_move rfl) rfl ?_
      refine L_y (y_idxA0 Try.underlying35 sz34 rfl rfl inferInstance (by omega)) rfl ?_
      refine L_y (y_ldc Try.underlying34 rfl rfl (((S20.blk 4 rfl).cell _).trans (show _ = some (uV (rounds SS v t).b) from rfl))) rfl ?_
      refine L_y (y_idxA0 Try.underlying35 sz34 rfl rfl inferInstance (by omega)) rfl ?_
      refine L_y (y_ldc Try.underlying34 rfl rfl (((S20.blk 4 rfl).cell _).trans (show _ = some (uV (rounds SS v t).c) from rfl))) rfl ?_
      refine L_y (y_idxA0 Try.underlying35 sz34 rfl rfl inferInstance (by omega)) rfl ?_
      refine L_y (y_ldc Try.underlying34 rfl rfl (((S20.blk 4 rfl).cell _).trans (show _ = some (uV (rounds SS v t).d) from rfl))) rfl ?_
      refine L_y (y_move rfl) rfl ?_
      refine L_y (y_add rfl rfl (addW _ _)) rfl ?_
      refine L_y (y_move rfl) rfl ?_
      refine L_y (y_idxA0 Try.underlying35 sz34 rfl rfl inferInstance (by omega)) rfl ?_
      refine L_y (y_ldc Try.underlying34 rfl rfl (((S20.blk 4 rfl).cell _).trans (show _ = some (uV (rounds SS v t).f) from rfl))) rfl ?_
      refine L_y (y_idxA0 Try.underlying35 sz34 rfl rfl inferInstance (by omega)) rfl ?_
      refine L_y (y_ldc Try.underlying34 rfl rfl (((S20.blk 4 rfl).cell _).trans (show _ = some (uV (rounds SS v t).g) from rfl))) rfl ?_
      refine L_y (y_build (cs := uA (rounds SS v (t + 1)).list) rfl (by kernel_rfl)) rfl ?_
      refine L_o (o_stW S20 4 rfl rfl rfl (by exact sz35) (by simp [Go.Proofs.Ytanelemeljbbcaa.St.list, Value.cells]) (uL_one _) fun w21 S21 => ?_)
      refine L_nil ?_
      refine hK9 _ _ ?_
      refine T_region ?_
      refine L_y (y_add rfl rfl (i64w (by omega))) rfl ?_
      refine L_y (y_move rfl) rfl ?_
      refine L_nil ?_
      refine ⟨t + 1, by omega, ⟨by omega, S21⟩, ?_⟩
      exact (Sub.cons rfl (by first | rfl | exact congrArg (Value.int _) (by omega)) (Sub.cons rfl rfl (Sub.cons rfl rfl (Sub.cons rfl rfl (Sub.cons rfl rfl (Sub.cons rfl rfl (Sub.nil _)))))))
    ·
      obtain rfl : t = 64 := by omega
      generalize hR : rounds SS v 64 = R at hl0 S11 ⊢
      refine T_exit ?_
      refine hK5 _ _ ?_
      refine T_seq fun K14 hK14 => ?_
      refine T_seq fun K15 hK15 => ?_
      refine T_region ?_
      refine L_y (y_move rfl) rfl ?_
      refine L_nil ?_
      refine hK15 _ _ ?_
      refine T_block ?_
      refine T_loop1 [(2, _), (4, _), (7, _)] (fun (i : Nat) => [(98, .int .i64 (i : Int))]) (fun (i : Nat) => 8 - i) (fun (i : Nat) (w : World) => i ≤ 8 ∧ Zx.St w0 noM [blk b1 35 (uA v.list), blk b2 35 (uA z8), blk b4 54 (uA kL), blk b7 54 (uA SS), blk b9 35 (uA (addU R.list v.list i))] w) 0 (Sub.cons rfl (by first | rfl | exact congrArg (Value.int _) (by omega)) (Sub.nil _)) (Sub.cons rfl rfl (Sub.cons rfl rfl (Sub.cons rfl rfl (Sub.nil _)))) ?_ ?_
      ·
        exact ⟨by omega, S11⟩
      ·
        intro i w22 hrel
        obtain ⟨hi, S22⟩ := hrel
        refine T_seq fun K16 hK16 => ?_
        refine T_region ?_
        refine L_y (y_lss rfl rfl) rfl ?_
        refine L_nil ?_
        refine hK16 _ _ ?_
        refine T_seq fun K17 hK17 => ?_
        refine T_cond rfl (fun h99 => ?_) (fun h99 => ?_)
        ·
          refine T_skip ?_
          refine hK17 _ _ ?_
          refine T_seq fun K18 hK18 => ?_
          refine T_block ?_
          refine T_seq fun K19 hK19 => ?_
          refine T_region ?_
          refine L_y (y_move rfl) rfl ?_
          refine L_y (y_assign rfl) rfl ?_
          refine L_nil ?_
          refine hK19 _ _ ?_
          refine T_tail 8 hmix (by kernel_rfl) fun w23 l23 K20 hK20 => ?_
          have S23 := S22.like l23
          refine HL_y (y_move rfl) rfl ?_
          refine HL_y (y_idxA0 Try.underlying35 sz34 rfl rfl inferInstance (by omega)) rfl ?_
          refine HL_y (y_ldc Try.underlying34 rfl rfl (((S23.blk 4 rfl).cell _).trans (addU_get _ _ i (by rw [list_8]; omega) (list_len _ _)))) rfl ?_
          refine HL_y (y_move rfl) rfl ?_
          refine HL_y (y_idxA0 Try.underlying35 sz34 rfl rfl inferInstance (by omega)) rfl ?_
          refine HL_y (y_ldc Try.underlying34 rfl rfl (((S23.blk 0 rfl).cell _).trans (uA_get' _ _ (by rw [list_8]; omega)))) rfl ?_
          refine HL_y (y_add rfl rfl (addW _ _)) rfl ?_
          refine HL_y (y_idxA0 Try.underlying35 sz34 rfl rfl inferInstance (by omega)) rfl ?_
          refine HL_nil ?_
          refine hK20 _ ?_
          refine L_o (o_st1 S23 4 rfl rfl rfl rfl sz34 (by rw [size_uA, length_addU R.list v.list (list_len _ _), list_8]; omega) fun w24 S24 => ?_)
          have S9 := S24.blkc 4 rfl (addU_set _ _ i (list_len _ _) (by rw [list_8]; omega))
          refine L_nil ?_
          refine hK18 _ _ ?_
          refine T_region ?_
          refine L_y (y_add rfl rfl (i64w (by omega))) rfl ?_
          refine L_y (y_move rfl) rfl ?_
          refine L_nil ?_
          refine ⟨i + 1, by omega, ⟨by omega, S9⟩, ?_⟩
          exact (Sub.cons rfl (by first | rfl | exact congrArg (Value.int _) (by omega)) (Sub.cons rfl rfl (Sub.cons rfl rfl (Sub.cons rfl rfl (Sub.nil _)))))
        ·
          obtain rfl : i = 8 := by omega
          refine T_exit ?_
          refine hK14 _ _ ?_
          refine T_seq fun K21 hK21 => ?_
          refine T_region ?_
          refine L_y (y_ldW (size := 8) (vs := uL (blockS v b).list) Try.underlying35 rfl sz35 rfl (S22.blk 4 rfl) ⟨by rw [← hl0]; rfl, rfl⟩) rfl ?_
          refine L_o (o_stW S22 1 rfl rfl rfl (by exact sz35) (by simp [Go.Proofs.Ytanelemeljbbcaa.St.list, z8, Value.cells]) (by first | exact uA_one _ | exact uL_one _ | exact bL_one _ | exact iL_one _ | (intro u hu; simp at hu; subst hu; rfl) | (simp; done) | (simp [Value.oneCell']; done)) fun w25 S25 => ?_)
          refine L_nil ?_
          refine hK21 _ _ ?_
          refine T_ret ?_
          repeat (first | with_reducible refine up_then ?_ | with_reducible refine up_in ?_)
          refine retc rfl rfl (S25.blk 1 rfl) Try.underlying35 rfl (by exact sz35) ?_
          exact ⟨_, rfl, S25.like0, rfl⟩
end Go.Proofs.Ytanelemeljbbcaa
