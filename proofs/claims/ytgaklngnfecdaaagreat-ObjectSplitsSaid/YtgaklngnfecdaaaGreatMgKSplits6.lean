import Derived.Test.YtgaklngnfecdaaaGreatMgKSplits4
import Derived.Test.YtgaklngnfecdaaaGreatMgKSplits5

/-
  The reference: Get and GetMark at longer bytes.
-/
namespace Go.Proofs.YtgaklngnfecdaaaGreat.Rev
open Go.RowKit Zk Zx
open Oid (idf hexL idf_len readR)
open Tre (nmOk)
set_option linter.unusedVariables false
set_option linter.unusedSimpArgs false

set_option maxRecDepth 100000 in
theorem rgetB (B : Option Addr) (m0 d : Nat) (s : List UInt8) (w0 : World) (hb : Rs w0 1 B m0 d (bL s)) (hl : s.length ≤ 90000) :
    Calls Tryz.prog 42 #[.slice B m0 d] w0 fun e w' => ∃ u, e = .returned u ∧ Like w0 w' ∧ ∃ A c, Fr w0 w' 32 A (gval s).ps.length c ((gval s).ps.flatMap idf) ∧ u = .tuple #[.agg (cmf (cmOf (gval s) A (gval s).ps.length c)).toArray, .int .i64 (gcode s)] := by
  refine enter1 (env := [(0, .slice B m0 d)]) [.slice B m0 d] Tryz.func42 rfl Tryz.ntmps42 rfl rfl ?_
  have S0 := St.start w0 noM
  refine T_seq fun K1 hK1 => ?_
  refine T_region ?_
  refine L_o (o_alloc zz83 S0 rfl fun b1 w1 hb1 S1 => ?_)
  refine L_y (y_assign rfl) rfl ?_
  refine L_nil ?_
  refine hK1 _ _ ?_
  refine T_seq fun K2 hK2 => ?_
  refine T_region ?_
  refine L_o (o_alloc zz83 S1 rfl fun b2 w2 hb2 S2 => ?_)
  have S3 : Zx.St w0 noM [blk b1 83 (cmf zCm).toArray, blk b2 83 (cmf zCm).toArray] w2 := S2.cast (by kernel_rfl)
  refine L_nil ?_
  refine hK2 _ _ ?_
  refine T_seq fun K3 hK3 => ?_
  refine T_region ?_
  refine L_y (y_move rfl) rfl ?_
  refine L_y (y_bstr Tryz.underlying22 Tryz.underlying5 Tryz.underlying9 rfl (by first | exact S3.rd hb)) rfl ?_
  refine L_o (o_call Tryz.func78 rfl rfl (rline s wTree w2 (by omega) (by decide)) rfl rfl ?_)
  rintro e4 w4 ⟨v4, rfl, l4, hu4⟩
  refine ⟨_, rfl, ?_⟩
  have S4 := S3.like l4
  obtain ⟨ta, s1, f1, hvf1, h1f1, h0f1, hlf1, hmf1⟩ := lineV_b wTree s
  rw [hvf1] at hu4
  subst hu4
  refine L_y (y_move rfl) rfl ?_
  refine L_y (y_extract rfl rfl) rfl ?_
  refine L_y (y_extract rfl rfl) rfl ?_
  refine L_y (y_extract rfl rfl) rfl ?_
  refine L_y (y_assign rfl) rfl ?_
  refine L_y (y_assign rfl) rfl ?_
  refine L_y (y_assign rfl) rfl ?_
  refine L_nil ?_
  refine hK3 _ _ ?_
  refine T_seq fun K4 hK4 => ?_
  refine T_region ?_
  refine L_y (y_move rfl) rfl ?_
  refine L_o (o_call Tryz.func79 rfl rfl (rreadN ta w4) rfl rfl ?_)
  rintro e5 w5 ⟨v5, rfl, l5, t, ht, rfl⟩
  refine ⟨_, rfl, ?_⟩
  have S5 := S4.like l5
  refine L_y (y_move rfl) rfl ?_
  refine L_y (y_extract rfl rfl) rfl ?_
  refine L_y (y_extract rfl rfl) rfl ?_
  refine L_o (o_alloc zz41 S5 rfl fun b6 w6 hb6 S6 => ?_)
  refine L_o (o_stW S6 2 rfl rfl rfl (by rw [List.size_toArray, idf_len]; exact sz41) (by rw [List.size_toArray, idf_len]; simp [Value.cells, idf_len]) (fun u hu => bL_one _ u (by rw [List.toList_toArray] at hu; exact hu)) fun w7 S7 => ?_)
  refine L_y (y_assign rfl) rfl ?_
  refine L_nil ?_
  refine hK4 _ _ ?_
  refine T_seq fun K5 hK5 => ?_
  refine T_seq fun K6 hK6 => ?_
  refine T_region ?_
  refine L_y (y_move rfl) rfl ?_
  refine L_y ((by first | exact y_notD rfl | exact y_not rfl)) rfl ?_
  refine L_y (y_move rfl) rfl ?_
  refine L_splitB 26 rfl (fun h26 => ?_) (fun h26 => ?_)
  ·
    refine L_gno rfl rfl rfl ?_
    refine L_gno rfl rfl rfl ?_
    refine L_y ((by first | exact y_pickT rfl rfl | exact y_pickF rfl rfl)) rfl ?_
    refine L_nil ?_
    refine hK6 _ _ ?_
    refine T_true rfl ?_
    refine T_seq fun K7 hK7 => ?_
    refine T_region ?_
    refine L_y (y_build rfl (show _ = some (cmf zCm).toArray by kernel_rfl)) rfl ?_
    refine L_o (o_stW S7 0 rfl rfl rfl (by rw [cmf_sz]; exact sz83) (by first | (rw [cmf_sz]; done) | (rw [cmf_sz]; rfl)) (fun u hu => cmf_one _ u (by rw [List.toList_toArray] at hu; exact hu)) fun w9 S9 => ?_)
    refine L_y (y_assign rfl) rfl ?_
    refine L_nil ?_
    refine hK7 _ _ ?_
    refine T_ret ?_
    repeat (first | with_reducible refine up_then ?_ | with_reducible refine up_in ?_)
    refine retct rfl rfl rfl (S9.blk 0 rfl) Tryz.underlying83 rfl (by rw [cmf_sz]; exact sz83) ?_
    exact get_out S9.like0 (g1 (id_bad h1f1 h0f1 (by first | exact .inl (by simpa using h26) | exact .inr h29)))
  ·
    refine L_gyes rfl rfl ?_
    refine L_y (y_move rfl) rfl ?_
    refine L_gyes rfl rfl ?_
    refine L_y (y_neq rfl rfl) rfl ?_
    refine L_y ((by first | exact y_pickT rfl rfl | exact y_pickF rfl rfl)) rfl ?_
    refine L_nil ?_
    refine hK6 _ _ ?_
    refine T_cond rfl (fun h29 => ?_) (fun h29 => ?_)
    ·
      refine T_seq fun K8 hK8 => ?_
      refine T_region ?_
      refine L_y (y_build rfl (show _ = some (cmf zCm).toArray by kernel_rfl)) rfl ?_
      refine L_o (o_stW S7 0 rfl rfl rfl (by rw [cmf_sz]; exact sz83) (by first | (rw [cmf_sz]; done) | (rw [cmf_sz]; rfl)) (fun u hu => cmf_one _ u (by rw [List.toList_toArray] at hu; exact hu)) fun w10 S10 => ?_)
      refine L_y (y_assign rfl) rfl ?_
      refine L_nil ?_
      refine hK8 _ _ ?_
      refine T_ret ?_
      repeat (first | with_reducible refine up_then ?_ | with_reducible refine up_in ?_)
      refine retct rfl rfl rfl (S10.blk 0 rfl) Tryz.underlying83 rfl (by rw [cmf_sz]; exact sz83) ?_
      exact get_out S10.like0 (g1 (id_bad h1f1 h0f1 (by first | exact .inl (by simpa using h26) | exact .inr h29)))
    ·
      have hid := id_good ht h1f1 (by simpa using h26) (Classical.byContradiction fun e => h29 e)
      have hl1 := hmf1 (by simpa using h26)
      refine T_skip ?_
      refine hK5 _ _ ?_
      refine T_seq fun K9 hK9 => ?_
      refine T_region ?_
      refine L_y (y_ldW Tryz.underlying41 rfl sz41 rfl (S7.blk 2 rfl) (⟨by rw [List.drop_zero]; exact List.take_of_length_le (by simp [idf_len]), by rw [idf_len]⟩ : _ = idf _ ∧ _)) rfl ?_
      refine L_y (y_fieldA 0 Tryz.underlying83 rfl sz41 rfl rfl rfl) rfl ?_
      refine L_o (o_stR S7 1 rfl rfl rfl (by rw [List.size_toArray, idf_len]; exact sz41) (by rw [List.size_toArray, idf_len, cmf_sz]; omega) (fun u hu => bL_one _ u (by rw [List.toList_toArray] at hu; exact hu)) fun w11 S11 => ?_)
      have S12 := S11.blkc 1 rfl (st_tree _ _)
      refine L_nil ?_
      refine hK9 _ _ ?_
      refine T_seq fun K10 hK10 => ?_
      refine T_block ?_
      refine T_loop7 [(2, _), (4, _), (8, _)] (fun (m : Nat) (s2 : List UInt8) (ps : List Oid.Id) (A : Option Addr) (n : Nat) (c : Nat) (q : List UInt8 × Bool × Int × Oid.Id) => [(5, .string ⟨q.1.toArray⟩), (6, .string ⟨s2.toArray⟩), (7, .bool q.2.1), (9, .int .i64 q.2.2.1)]) (fun (m : Nat) (s2 : List UInt8) (ps : List Oid.Id) (A : Option Addr) (n : Nat) (c : Nat) (q : List UInt8 × Bool × Int × Oid.Id) => m) (fun (m : Nat) (s2 : List UInt8) (ps : List Oid.Id) (A : Option Addr) (n : Nat) (c : Nat) (q : List UInt8 × Bool × Int × Oid.Id) (w : World) => (n = ps.length ∧ s2.length < m ∧ ps.length + s2.length ≤ 100000 ∧ parsR (s.length + 1) s1 = (parsR m s2).map fun q => (ps ++ q.1, q.2)) ∧ Zx.St w0 noM [blk b1 83 (cmf zCm).toArray, blk b2 83 (cmf (⟨t, A, n, c, [], ⟨#[]⟩, 0, ⟨#[]⟩⟩ : Cm)).toArray, blk b6 41 (idf q.2.2.2).toArray, row 41 32 A n c (ps.flatMap idf)] w) (s.length + 1) s1 [] none 0 0 (ta, f1, (readR ta).2, t) (Sub.cons rfl (by first | rfl | exact congrArg (Value.int _) (by omega)) (Sub.cons rfl (by first | rfl | exact congrArg (Value.int _) (by omega)) (Sub.cons rfl (by first | rfl | exact congrArg (Value.int _) (by omega)) (Sub.cons rfl (by first | rfl | exact congrArg (Value.int _) (by omega)) (Sub.nil _))))) (Sub.cons rfl rfl (Sub.cons rfl rfl (Sub.cons rfl rfl (Sub.nil _)))) ?_ ?_
      ·
        have S80 := S12.nilrow 41 32
        exact ⟨⟨rfl, by omega, by simp; omega, by cases parsR (s.length + 1) s1 <;> rfl⟩, S80⟩
      ·
        intro m s2 ps A n c q w13 hrel
        obtain ⟨⟨hn, hm, hb2, hps⟩, S13⟩ := hrel
        refine T_seq fun K11 hK11 => ?_
        refine T_seq fun K12 hK12 => ?_
        refine T_region ?_
        refine L_y (y_move rfl) rfl ?_
        refine L_y (y_lens Tryz.underlying9 rfl) rfl ?_
        refine L_y (y_geq rfl rfl) rfl ?_
        refine L_y (y_move rfl) rfl ?_
        refine L_split 36 rfl (fun h36 => ?_) (fun h36 => ?_)
        ·
          refine L_gyes rfl rfl ?_
          refine L_y (y_move rfl) rfl ?_
          refine L_gyes rfl rfl ?_
          refine L_y (y_ssliceH (u := 7) Tryz.underlying9 rfl rfl (Nt.mk (by omega)) (by omega)) rfl ?_
          refine L_gyes rfl rfl ?_
          refine L_y (y_seql rfl rfl) rfl ?_
          refine L_y ((by first | exact y_pickT rfl rfl | exact y_pickF rfl rfl)) rfl ?_
          refine L_nil ?_
          refine hK12 _ _ ?_
          refine T_cond rfl (fun h40 => ?_) (fun h40 => ?_)
          ·
            have h9 : preP s2 (wParent ++ [32]) := (par_iff s2).1 h40
            refine T_skip ?_
            refine hK11 _ _ ?_
            refine T_block ?_
            refine T_seq fun K13 hK13 => ?_
            obtain ⟨m, rfl⟩ : ∃ k, m = k + 1 := ⟨m - 1, by omega⟩
            refine T_region ?_
            refine L_y (y_move rfl) rfl ?_
            refine L_o (o_call Tryz.func78 rfl rfl (rline s2 wParent w13 (by omega) (by decide)) rfl rfl ?_)
            rintro e15 w15 ⟨v15, rfl, l15, hu15⟩
            refine ⟨_, rfl, ?_⟩
            have S15 := S13.like l15
            obtain ⟨tp, s3, f2, hvf2, h1f2, h0f2, hlf2, hmf2⟩ := lineV_b wParent s2
            rw [hvf2] at hu15
            subst hu15
            refine L_y (y_move rfl) rfl ?_
            refine L_y (y_extract rfl rfl) rfl ?_
            refine L_y (y_extract rfl rfl) rfl ?_
            refine L_y (y_extract rfl rfl) rfl ?_
            refine L_y (y_assign rfl) rfl ?_
            refine L_y (y_assign rfl) rfl ?_
            refine L_y (y_assign rfl) rfl ?_
            refine L_nil ?_
            refine hK13 _ _ ?_
            refine T_seq fun K14 hK14 => ?_
            refine T_region ?_
            refine L_y (y_move rfl) rfl ?_
            refine L_o (o_call Tryz.func79 rfl rfl (rreadN tp w15) rfl rfl ?_)
            rintro e16 w16 ⟨v16, rfl, l16, p, hp, rfl⟩
            refine ⟨_, rfl, ?_⟩
            have S16 := S15.like l16
            refine L_y (y_move rfl) rfl ?_
            refine L_y (y_extract rfl rfl) rfl ?_
            refine L_y (y_extract rfl rfl) rfl ?_
            refine L_o (o_stW S16 2 rfl rfl rfl (by rw [List.size_toArray, idf_len]; exact sz41) (by rw [List.size_toArray, idf_len]; simp [Value.cells, idf_len]) (fun u hu => bL_one _ u (by rw [List.toList_toArray] at hu; exact hu)) fun w17 S17 => ?_)
            refine L_y (y_assign rfl) rfl ?_
            refine L_nil ?_
            refine hK14 _ _ ?_
            refine T_seq fun K15 hK15 => ?_
            refine T_seq fun K16 hK16 => ?_
            refine T_region ?_
            refine L_y (y_move rfl) rfl ?_
            refine L_y ((by first | exact y_notD rfl | exact y_not rfl)) rfl ?_
            refine L_y (y_move rfl) rfl ?_
            refine L_splitB 54 rfl (fun h54 => ?_) (fun h54 => ?_)
            ·
              refine L_gno rfl rfl rfl ?_
              refine L_gno rfl rfl rfl ?_
              refine L_y ((by first | exact y_pickT rfl rfl | exact y_pickF rfl rfl)) rfl ?_
              refine L_nil ?_
              refine hK16 _ _ ?_
              refine T_true rfl ?_
              refine T_seq fun K17 hK17 => ?_
              refine T_region ?_
              refine L_y (y_build rfl (show _ = some (cmf zCm).toArray by kernel_rfl)) rfl ?_
              refine L_o (o_stW S17 0 rfl rfl rfl (by rw [cmf_sz]; exact sz83) (by first | (rw [cmf_sz]; done) | (rw [cmf_sz]; rfl)) (fun u hu => cmf_one _ u (by rw [List.toList_toArray] at hu; exact hu)) fun w19 S19 => ?_)
              refine L_y (y_assign rfl) rfl ?_
              refine L_nil ?_
              refine hK17 _ _ ?_
              refine T_ret ?_
              repeat (first | with_reducible refine up_then ?_ | with_reducible refine up_in ?_)
              refine retct rfl rfl rfl (S19.blk 0 rfl) Tryz.underlying83 rfl (by rw [cmf_sz]; exact sz83) ?_
              exact get_out S19.like0 (g2 hid (by rw [hps, parsR_bad h9 (id_bad h1f2 h0f2 (by first | exact .inl (by simpa using h54) | exact .inr h57))]; rfl))
            ·
              refine L_gyes rfl rfl ?_
              refine L_y (y_move rfl) rfl ?_
              refine L_gyes rfl rfl ?_
              refine L_y (y_neq rfl rfl) rfl ?_
              refine L_y ((by first | exact y_pickT rfl rfl | exact y_pickF rfl rfl)) rfl ?_
              refine L_nil ?_
              refine hK16 _ _ ?_
              refine T_cond rfl (fun h57 => ?_) (fun h57 => ?_)
              ·
                refine T_seq fun K18 hK18 => ?_
                refine T_region ?_
                refine L_y (y_build rfl (show _ = some (cmf zCm).toArray by kernel_rfl)) rfl ?_
                refine L_o (o_stW S17 0 rfl rfl rfl (by rw [cmf_sz]; exact sz83) (by first | (rw [cmf_sz]; done) | (rw [cmf_sz]; rfl)) (fun u hu => cmf_one _ u (by rw [List.toList_toArray] at hu; exact hu)) fun w20 S20 => ?_)
                refine L_y (y_assign rfl) rfl ?_
                refine L_nil ?_
                refine hK18 _ _ ?_
                refine T_ret ?_
                repeat (first | with_reducible refine up_then ?_ | with_reducible refine up_in ?_)
                refine retct rfl rfl rfl (S20.blk 0 rfl) Tryz.underlying83 rfl (by rw [cmf_sz]; exact sz83) ?_
                exact get_out S20.like0 (g2 hid (by rw [hps, parsR_bad h9 (id_bad h1f2 h0f2 (by first | exact .inl (by simpa using h54) | exact .inr h57))]; rfl))
              ·
                have hid4 := id_good hp h1f2 (by simpa using h54) (Classical.byContradiction fun e => h57 e)
                have hl4 := hmf2 (by simpa using h54)
                refine T_skip ?_
                refine hK15 _ _ ?_
                refine T_region ?_
                refine L_y (y_fieldA 32 Tryz.underlying83 rfl sz81 rfl rfl rfl) rfl ?_
                refine L_y (y_ldc Tryz.underlying81 rfl rfl (((S17.blk 1 rfl).cell _).trans (cm32 _))) rfl ?_
                refine L_y (y_ldW Tryz.underlying41 rfl sz41 rfl (S17.blk 2 rfl) (⟨by rw [List.drop_zero]; exact List.take_of_length_le (by simp [idf_len]), by rw [idf_len]⟩ : _ = idf _ ∧ _)) rfl ?_
                refine L_o (o_bsl (idf p) te81 zz41 S17 rfl rfl rfl (by simp [Value.cells, idf_len]) (by simp [Value.cells]) rfl rfl rfl fun b21 w21 S21 => ?_)
                refine L_o (o_app te81 S21 3 rfl rfl rfl (by first | exact S21.rd hb | exact S21.row 4 rfl) (fun u hu => bL_one _ u hu) rfl (by omega) (by omega) fun A22 c22 w22 S22 => ?_)
                have S22d := S22.drop (rs' := [_, _, _, _]) (.cons_cons _ (.cons_cons _ (.cons_cons _ (.cons_cons _ (.cons _ (.refl _))))))
                refine L_y (y_fieldA 32 Tryz.underlying83 rfl sz81 rfl rfl rfl) rfl ?_
                refine L_o (o_st1 S22d 1 rfl rfl rfl rfl sz81 (by rw [cmf_sz]; omega) fun w23 S23 => ?_)
                have S24 := S23.blkc 1 rfl (st32 _ _ _ _)
                refine L_nil ?_
                have S9 := S24.rowc 3 rfl (n' := n + 1) (xs' := (ps ++ [p]).flatMap idf) rfl (by rw [List.flatMap_append]; simp; rfl)
                refine ⟨m, s3, ps ++ [p], _, _, _, (tp, f2, (readR tp).2, p), by omega, ⟨⟨by rw [List.length_append, hn]; rfl, by omega, by rw [List.length_append]; simp only [List.length_cons, List.length_nil]; omega, by rw [hps, parsR_step h9 hid4, map_step]⟩, S9⟩, ?_⟩
                exact (Sub.cons rfl (by first | rfl | exact congrArg (Value.int _) (by omega)) (Sub.cons rfl (by first | rfl | exact congrArg (Value.int _) (by omega)) (Sub.cons rfl (by first | rfl | exact congrArg (Value.int _) (by omega)) (Sub.cons rfl (by first | rfl | exact congrArg (Value.int _) (by omega)) (Sub.cons rfl rfl (Sub.cons rfl rfl (Sub.cons rfl rfl (Sub.nil _))))))))
          ·
            refine T_exit ?_
            refine hK10 _ _ ?_
            refine T_seq fun K19 hK19 => ?_
            have hbs2 := bsz s2
            have h9 : ¬ preP s2 (wParent ++ [32]) := by first | exact fun h => h40 ((par_iff s2).2 h) | exact fun h => by have h8 := par7 h; omega
            have hp2 : parsR (s.length + 1) s1 = some (ps, s2) := by rw [hps, parsR_end h9]; simp
            refine T_region ?_
            refine L_y (y_move rfl) rfl ?_
            refine L_o (o_call Tryz.func78 rfl rfl (rline s2 wAuthor w13 (by omega) (by decide)) rfl rfl ?_)
            rintro e25 w25 ⟨v25, rfl, l25, hu25⟩
            refine ⟨_, rfl, ?_⟩
            have S25 := S13.like l25
            obtain ⟨au, s3, f3, hvf3, h1f3, h0f3, hlf3, hmf3⟩ := lineV_b wAuthor s2
            rw [hvf3] at hu25
            subst hu25
            refine L_y (y_move rfl) rfl ?_
            refine L_y (y_extract rfl rfl) rfl ?_
            refine L_y (y_extract rfl rfl) rfl ?_
            refine L_y (y_extract rfl rfl) rfl ?_
            refine L_y (y_fieldA 33 Tryz.underlying83 rfl sz9 rfl rfl rfl) rfl ?_
            refine L_o (o_st1 S25 1 rfl rfl rfl rfl sz9 (by rw [cmf_sz]; omega) fun w26 S26 => ?_)
            have S27 := S26.blkc 1 rfl (st33 _ _)
            refine L_y (y_assign rfl) rfl ?_
            refine L_y (y_assign rfl) rfl ?_
            refine L_nil ?_
            refine hK19 _ _ ?_
            refine T_seq fun K20 hK20 => ?_
            refine T_seq fun K21 hK21 => ?_
            refine T_region ?_
            refine L_y (y_move rfl) rfl ?_
            refine L_y ((by first | exact y_notD rfl | exact y_not rfl)) rfl ?_
            refine L_nil ?_
            refine hK21 _ _ ?_
            refine T_condB rfl (fun h73 => ?_) (fun h73 => ?_)
            ·
              refine T_seq fun K22 hK22 => ?_
              refine T_region ?_
              refine L_y (y_build rfl (show _ = some (cmf zCm).toArray by kernel_rfl)) rfl ?_
              refine L_o (o_stW S27 0 rfl rfl rfl (by rw [cmf_sz]; exact sz83) (by first | (rw [cmf_sz]; done) | (rw [cmf_sz]; rfl)) (fun u hu => cmf_one _ u (by rw [List.toList_toArray] at hu; exact hu)) fun w28 S28 => ?_)
              refine L_y (y_assign rfl) rfl ?_
              refine L_nil ?_
              refine hK22 _ _ ?_
              refine T_ret ?_
              repeat (first | with_reducible refine up_then ?_ | with_reducible refine up_in ?_)
              refine retct rfl rfl rfl (S28.blk 0 rfl) Tryz.underlying83 rfl (by rw [cmf_sz]; exact sz83) ?_
              exact get_out S28.like0 (g3 hid hp2 (h0f3 (by simpa using h73)))
            ·
              have hau := h1f3 (by simpa using h73)
              refine T_skip ?_
              refine hK20 _ _ ?_
              refine T_seq fun K23 hK23 => ?_
              refine T_region ?_
              refine L_y (y_move rfl) rfl ?_
              refine L_o (o_call Tryz.func78 rfl rfl (rline s3 wTime w26 (by omega) (by decide)) rfl rfl ?_)
              rintro e29 w29 ⟨v29, rfl, l29, hu29⟩
              refine ⟨_, rfl, ?_⟩
              have S29 := S27.like l29
              obtain ⟨tn, s4, f4, hvf4, h1f4, h0f4, hlf4, hmf4⟩ := lineV_b wTime s3
              rw [hvf4] at hu29
              subst hu29
              refine L_y (y_move rfl) rfl ?_
              refine L_y (y_extract rfl rfl) rfl ?_
              refine L_y (y_extract rfl rfl) rfl ?_
              refine L_y (y_extract rfl rfl) rfl ?_
              refine L_y (y_assign rfl) rfl ?_
              refine L_y (y_assign rfl) rfl ?_
              refine L_y (y_assign rfl) rfl ?_
              refine L_nil ?_
              refine hK23 _ _ ?_
              refine T_seq fun K24 hK24 => ?_
              refine T_region ?_
              refine L_y (y_move rfl) rfl ?_
              refine L_o (o_call Tryz.func49 rfl rfl (rnumber ⟨tn.toArray⟩ w29) rfl rfl ?_)
              rintro e30 w30 ⟨v30, rfl, l30, hu30⟩
              refine ⟨_, rfl, ?_⟩
              have S30 := S29.like l30
              obtain ⟨va, vb, hnv, hnc⟩ := numR_b tn
              have hnv2 : numR (⟨tn.toArray⟩ : ByteArray).data.toList = .tuple #[.int .i64 va, .int .i64 vb] := hnv
              rw [hnv2] at hu30
              subst hu30
              refine L_y (y_move rfl) rfl ?_
              refine L_y (y_extract rfl rfl) rfl ?_
              refine L_y (y_extract rfl rfl) rfl ?_
              refine L_y (y_assign rfl) rfl ?_
              refine L_y (y_assign rfl) rfl ?_
              refine L_nil ?_
              refine hK24 _ _ ?_
              refine T_seq fun K25 hK25 => ?_
              refine T_seq fun K26 hK26 => ?_
              refine T_region ?_
              refine L_y (y_move rfl) rfl ?_
              refine L_y ((by first | exact y_notD rfl | exact y_not rfl)) rfl ?_
              refine L_y (y_move rfl) rfl ?_
              refine L_splitB 88 rfl (fun h88 => ?_) (fun h88 => ?_)
              ·
                refine L_gno rfl rfl rfl ?_
                refine L_gno rfl rfl rfl ?_
                refine L_y ((by first | exact y_pickT rfl rfl | exact y_pickF rfl rfl)) rfl ?_
                refine L_y (y_move rfl) rfl ?_
                refine L_gno rfl rfl rfl ?_
                refine L_gno rfl rfl rfl ?_
                refine L_y ((by first | exact y_pickT rfl rfl | exact y_pickF rfl rfl)) rfl ?_
                refine L_y (y_move rfl) rfl ?_
                refine L_gno rfl rfl rfl ?_
                refine L_gno rfl rfl rfl ?_
                refine L_gno rfl rfl rfl ?_
                refine L_y ((by first | exact y_pickT rfl rfl | exact y_pickF rfl rfl)) rfl ?_
                refine L_nil ?_
                refine hK26 _ _ ?_
                refine T_true rfl ?_
                refine T_seq fun K27 hK27 => ?_
                refine T_region ?_
                refine L_y (y_build rfl (show _ = some (cmf zCm).toArray by kernel_rfl)) rfl ?_
                refine L_o (o_stW S30 0 rfl rfl rfl (by rw [cmf_sz]; exact sz83) (by first | (rw [cmf_sz]; done) | (rw [cmf_sz]; rfl)) (fun u hu => cmf_one _ u (by rw [List.toList_toArray] at hu; exact hu)) fun w32 S32 => ?_)
                refine L_y (y_assign rfl) rfl ?_
                refine L_nil ?_
                refine hK27 _ _ ?_
                refine T_ret ?_
                repeat (first | with_reducible refine up_then ?_ | with_reducible refine up_in ?_)
                refine retct rfl rfl rfl (S32.blk 0 rfl) Tryz.underlying83 rfl (by rw [cmf_sz]; exact sz83) ?_
                first | exact get_out S32.like0 (g4 hid hp2 hau (numb_bad h1f4 h0f4 (.inl (by simpa using h88)))) | exact get_out S32.like0 (g4 hid hp2 hau (numb_bad h1f4 h0f4 (.inr (hnc.resolve_left (fun h => h92 h.1)).2))) | exact get_out S32.like0 (g5 hid hp2 hau (numb_good h1f4 (by simpa using h88) (hnc.resolve_right (fun h => h92 (by omega))).2.1) (by first | exact textR_n h100 | exact textR_e h96))
              ·
                refine L_gyes rfl rfl ?_
                refine L_y (y_move rfl) rfl ?_
                refine L_gyes rfl rfl ?_
                refine L_y (y_neq rfl rfl) rfl ?_
                refine L_y ((by first | exact y_pickT rfl rfl | exact y_pickF rfl rfl)) rfl ?_
                refine L_y (y_move rfl) rfl ?_
                refine L_split 92 rfl (fun h92 => ?_) (fun h92 => ?_)
                ·
                  refine L_gno rfl rfl rfl ?_
                  refine L_gno rfl rfl rfl ?_
                  refine L_y ((by first | exact y_pickT rfl rfl | exact y_pickF rfl rfl)) rfl ?_
                  refine L_y (y_move rfl) rfl ?_
                  refine L_gno rfl rfl rfl ?_
                  refine L_gno rfl rfl rfl ?_
                  refine L_gno rfl rfl rfl ?_
                  refine L_y ((by first | exact y_pickT rfl rfl | exact y_pickF rfl rfl)) rfl ?_
                  refine L_nil ?_
                  refine hK26 _ _ ?_
                  refine T_true rfl ?_
                  refine T_seq fun K28 hK28 => ?_
                  refine T_region ?_
                  refine L_y (y_build rfl (show _ = some (cmf zCm).toArray by kernel_rfl)) rfl ?_
                  refine L_o (o_stW S30 0 rfl rfl rfl (by rw [cmf_sz]; exact sz83) (by first | (rw [cmf_sz]; done) | (rw [cmf_sz]; rfl)) (fun u hu => cmf_one _ u (by rw [List.toList_toArray] at hu; exact hu)) fun w34 S34 => ?_)
                  refine L_y (y_assign rfl) rfl ?_
                  refine L_nil ?_
                  refine hK28 _ _ ?_
                  refine T_ret ?_
                  repeat (first | with_reducible refine up_then ?_ | with_reducible refine up_in ?_)
                  refine retct rfl rfl rfl (S34.blk 0 rfl) Tryz.underlying83 rfl (by rw [cmf_sz]; exact sz83) ?_
                  first | exact get_out S34.like0 (g4 hid hp2 hau (numb_bad h1f4 h0f4 (.inl (by simpa using h88)))) | exact get_out S34.like0 (g4 hid hp2 hau (numb_bad h1f4 h0f4 (.inr (hnc.resolve_left (fun h => h92 h.1)).2))) | exact get_out S34.like0 (g5 hid hp2 hau (numb_good h1f4 (by simpa using h88) (hnc.resolve_right (fun h => h92 (by omega))).2.1) (by first | exact textR_n h100 | exact textR_e h96))
                ·
                  refine L_gyes rfl rfl ?_
                  refine L_y (y_move rfl) rfl ?_
                  refine L_gyes rfl rfl ?_
                  refine L_y (y_seql rfl rfl) rfl ?_
                  refine L_y ((by first | exact y_pickT rfl rfl | exact y_pickF rfl rfl)) rfl ?_
                  refine L_y (y_move rfl) rfl ?_
                  refine L_split 96 rfl (fun h96 => ?_) (fun h96 => ?_)
                  ·
                    refine L_gno rfl rfl rfl ?_
                    refine L_gno rfl rfl rfl ?_
                    refine L_gno rfl rfl rfl ?_
                    refine L_y ((by first | exact y_pickT rfl rfl | exact y_pickF rfl rfl)) rfl ?_
                    refine L_nil ?_
                    refine hK26 _ _ ?_
                    refine T_true rfl ?_
                    refine T_seq fun K29 hK29 => ?_
                    refine T_region ?_
                    refine L_y (y_build rfl (show _ = some (cmf zCm).toArray by kernel_rfl)) rfl ?_
                    refine L_o (o_stW S30 0 rfl rfl rfl (by rw [cmf_sz]; exact sz83) (by first | (rw [cmf_sz]; done) | (rw [cmf_sz]; rfl)) (fun u hu => cmf_one _ u (by rw [List.toList_toArray] at hu; exact hu)) fun w36 S36 => ?_)
                    refine L_y (y_assign rfl) rfl ?_
                    refine L_nil ?_
                    refine hK29 _ _ ?_
                    refine T_ret ?_
                    repeat (first | with_reducible refine up_then ?_ | with_reducible refine up_in ?_)
                    refine retct rfl rfl rfl (S36.blk 0 rfl) Tryz.underlying83 rfl (by rw [cmf_sz]; exact sz83) ?_
                    first | exact get_out S36.like0 (g4 hid hp2 hau (numb_bad h1f4 h0f4 (.inl (by simpa using h88)))) | exact get_out S36.like0 (g4 hid hp2 hau (numb_bad h1f4 h0f4 (.inr (hnc.resolve_left (fun h => h92 h.1)).2))) | exact get_out S36.like0 (g5 hid hp2 hau (numb_good h1f4 (by simpa using h88) (hnc.resolve_right (fun h => h92 (by omega))).2.1) (by first | exact textR_n h100 | exact textR_e h96))
                  ·
                    have h0s : 0 < s4.length := Nat.pos_of_ne_zero (fun e => h96 (by rw [List.eq_nil_of_length_eq_zero e]))
                    have hbs4 := bsz s4
                    refine L_gyes rfl rfl ?_
                    refine L_y (y_move rfl) rfl ?_
                    refine L_gyes rfl rfl ?_
                    refine L_y (y_idxS Tryz.underlying9 rfl rfl inferInstance (by omega)) rfl ?_
                    refine L_gyes rfl rfl ?_
                    refine L_y (y_neq rfl rfl) rfl ?_
                    refine L_y ((by first | exact y_pickT rfl rfl | exact y_pickF rfl rfl)) rfl ?_
                    refine L_nil ?_
                    refine hK26 _ _ ?_
                    refine T_cond rfl (fun h100 => ?_) (fun h100 => ?_)
                    ·
                      refine T_seq fun K30 hK30 => ?_
                      refine T_region ?_
                      refine L_y (y_build rfl (show _ = some (cmf zCm).toArray by kernel_rfl)) rfl ?_
                      refine L_o (o_stW S30 0 rfl rfl rfl (by rw [cmf_sz]; exact sz83) (by first | (rw [cmf_sz]; done) | (rw [cmf_sz]; rfl)) (fun u hu => cmf_one _ u (by rw [List.toList_toArray] at hu; exact hu)) fun w37 S37 => ?_)
                      refine L_y (y_assign rfl) rfl ?_
                      refine L_nil ?_
                      refine hK30 _ _ ?_
                      refine T_ret ?_
                      repeat (first | with_reducible refine up_then ?_ | with_reducible refine up_in ?_)
                      refine retct rfl rfl rfl (S37.blk 0 rfl) Tryz.underlying83 rfl (by rw [cmf_sz]; exact sz83) ?_
                      first | exact get_out S37.like0 (g4 hid hp2 hau (numb_bad h1f4 h0f4 (.inl (by simpa using h88)))) | exact get_out S37.like0 (g4 hid hp2 hau (numb_bad h1f4 h0f4 (.inr (hnc.resolve_left (fun h => h92 h.1)).2))) | exact get_out S37.like0 (g5 hid hp2 hau (numb_good h1f4 (by simpa using h88) (hnc.resolve_right (fun h => h92 (by omega))).2.1) (by first | exact textR_n h100 | exact textR_e h96))
                    ·
                      subst hn
                      obtain ⟨hvb, hok, rfl⟩ := hnc.resolve_right (fun h => h92 (by omega))
                      have hpx : preP s4 [10] := (pre1 s4).2 ⟨Nat.pos_of_ne_zero (fun e => h96 (by rw [List.eq_nil_of_length_eq_zero e])), Classical.byContradiction fun e => h100 e⟩
                      have h0s : 0 < s4.length := ((pre1 s4).1 hpx).1
                      have hg : getR s = some (⟨t, ps, au, numV tn, s4.drop 1⟩ : CmL) := g6 hid hp2 hau (numb_good h1f4 (by simpa using h88) hok) (by unfold textR; exact if_pos hpx)
                      refine T_skip ?_
                      refine hK25 _ _ ?_
                      refine T_seq fun K31 hK31 => ?_
                      refine T_region ?_
                      refine L_y (y_move rfl) rfl ?_
                      refine L_y (y_fieldA 34 Tryz.underlying83 rfl sz3 rfl rfl rfl) rfl ?_
                      refine L_o (o_st1 S30 1 rfl rfl rfl rfl sz3 (by rw [cmf_sz]; omega) fun w38 S38 => ?_)
                      have S39 := S38.blkc 1 rfl (st34 _ _)
                      refine L_nil ?_
                      refine hK31 _ _ ?_
                      refine T_seq fun K32 hK32 => ?_
                      refine T_region ?_
                      refine L_y (y_move rfl) rfl ?_
                      refine L_y (y_ssliceL (l := 1) Tryz.underlying9 rfl rfl (Nt.mk (by omega)) (by omega)) rfl ?_
                      rw [ext_drop]
                      refine L_y (y_fieldA 35 Tryz.underlying83 rfl sz9 rfl rfl rfl) rfl ?_
                      refine L_o (o_st1 S39 1 rfl rfl rfl rfl sz9 (by rw [cmf_sz]; omega) fun w40 S40 => ?_)
                      have S41 := S40.blkc 1 rfl (st35 _ _)
                      refine L_nil ?_
                      refine hK32 _ _ ?_
                      refine T_seq fun K33 hK33 => ?_
                      refine T_region ?_
                      refine L_y (y_ldW Tryz.underlying83 rfl sz83 rfl (S41.blk 1 rfl) (cm_whole _)) rfl ?_
                      refine L_o (o_call Tryz.func80 rfl rfl (rcheck (cmOf ⟨t, ps, au, numV tn, s4.drop 1⟩ A ps.length c) w40 (S41.row 3 rfl)) rfl rfl ?_)
                      rintro e42 w42 ⟨v42, rfl, l42, rfl⟩
                      refine ⟨_, rfl, ?_⟩
                      have S42 := S41.like l42
                      refine L_y (y_assign rfl) rfl ?_
                      refine L_nil ?_
                      refine hK33 _ _ ?_
                      refine T_seq fun K34 hK34 => ?_
                      refine T_seq fun K35 hK35 => ?_
                      refine T_region ?_
                      refine L_y (y_move rfl) rfl ?_
                      refine L_y (y_neq rfl rfl) rfl ?_
                      refine L_nil ?_
                      refine hK35 _ _ ?_
                      refine T_cond rfl (fun h110 => ?_) (fun h110 => ?_)
                      ·
                        refine T_seq fun K36 hK36 => ?_
                        refine T_region ?_
                        refine L_y (y_build rfl (show _ = some (cmf zCm).toArray by kernel_rfl)) rfl ?_
                        refine L_y (y_move rfl) rfl ?_
                        refine L_o (o_stW S42 0 rfl rfl rfl (by rw [cmf_sz]; exact sz83) (by first | (rw [cmf_sz]; done) | (rw [cmf_sz]; rfl)) (fun u hu => cmf_one _ u (by rw [List.toList_toArray] at hu; exact hu)) fun w43 S43 => ?_)
                        refine L_y (y_assign rfl) rfl ?_
                        refine L_nil ?_
                        refine hK36 _ _ ?_
                        refine T_ret ?_
                        repeat (first | with_reducible refine up_then ?_ | with_reducible refine up_in ?_)
                        refine retct rfl rfl rfl (S43.blk 0 rfl) Tryz.underlying83 rfl (by rw [cmf_sz]; exact sz83) ?_
                        have hgo := go_some hg
                        have h0 : ¬ chk (cmO (⟨t, ps, au, numV tn, s4.drop 1⟩ : CmL)) = 0 := fun e => h110 e
                        have hv : gval s = zL := by rw [hgo.2, if_neg h0]
                        rw [hv, hgo.1]
                        refine ⟨_, rfl, S43.like0, none, 0, fr_nil _ _ _, ?_⟩
                        exact congrArg (fun x => Value.tuple #[.agg (cmf x).toArray, _]) zL_cm.symm
                      ·
                        refine T_skip ?_
                        refine hK34 _ _ ?_
                        refine T_seq fun K37 hK37 => ?_
                        refine T_region ?_
                        refine L_y (y_ldW Tryz.underlying83 rfl sz83 rfl (S42.blk 1 rfl) (cm_whole _)) rfl ?_
                        refine L_o (o_stW S42 0 rfl rfl rfl (by rw [cmf_sz]; exact sz83) (by first | (rw [cmf_sz]; done) | (rw [cmf_sz]; rfl)) (fun u hu => cmf_one _ u (by rw [List.toList_toArray] at hu; exact hu)) fun w44 S44 => ?_)
                        refine L_y (y_assign rfl) rfl ?_
                        refine L_nil ?_
                        refine hK37 _ _ ?_
                        refine T_ret ?_
                        repeat (first | with_reducible refine up_then ?_ | with_reducible refine up_in ?_)
                        refine retct rfl rfl rfl (S44.blk 0 rfl) Tryz.underlying83 rfl (by rw [cmf_sz]; exact sz83) ?_
                        have hgo := go_some hg
                        have h0 : chk (cmO (⟨t, ps, au, numV tn, s4.drop 1⟩ : CmL)) = 0 := Classical.byContradiction fun e => h110 e
                        have hv : gval s = (⟨t, ps, au, numV tn, s4.drop 1⟩ : CmL) := by rw [hgo.2, if_pos h0]
                        rw [hv, hgo.1, h0]
                        exact ⟨_, rfl, S44.like0, A, c, Fr.of_own (S44.own 3 rfl), rfl⟩
        ·
          refine L_gno rfl rfl rfl ?_
          refine L_gno rfl rfl rfl ?_
          refine L_gno rfl rfl rfl ?_
          refine L_y ((by first | exact y_pickT rfl rfl | exact y_pickF rfl rfl)) rfl ?_
          refine L_nil ?_
          refine hK12 _ _ ?_
          refine T_false rfl ?_
          refine T_exit ?_
          refine hK10 _ _ ?_
          refine T_seq fun K38 hK38 => ?_
          have hbs2 := bsz s2
          have h9 : ¬ preP s2 (wParent ++ [32]) := by first | exact fun h => h40 ((par_iff s2).2 h) | exact fun h => by have h8 := par7 h; omega
          have hp2 : parsR (s.length + 1) s1 = some (ps, s2) := by rw [hps, parsR_end h9]; simp
          refine T_region ?_
          refine L_y (y_move rfl) rfl ?_
          refine L_o (o_call Tryz.func78 rfl rfl (rline s2 wAuthor w13 (by omega) (by decide)) rfl rfl ?_)
          rintro e45 w45 ⟨v45, rfl, l45, hu45⟩
          refine ⟨_, rfl, ?_⟩
          have S45 := S13.like l45
          obtain ⟨au, s3, f3, hvf3, h1f3, h0f3, hlf3, hmf3⟩ := lineV_b wAuthor s2
          rw [hvf3] at hu45
          subst hu45
          refine L_y (y_move rfl) rfl ?_
          refine L_y (y_extract rfl rfl) rfl ?_
          refine L_y (y_extract rfl rfl) rfl ?_
          refine L_y (y_extract rfl rfl) rfl ?_
          refine L_y (y_fieldA 33 Tryz.underlying83 rfl sz9 rfl rfl rfl) rfl ?_
          refine L_o (o_st1 S45 1 rfl rfl rfl rfl sz9 (by rw [cmf_sz]; omega) fun w46 S46 => ?_)
          have S47 := S46.blkc 1 rfl (st33 _ _)
          refine L_y (y_assign rfl) rfl ?_
          refine L_y (y_assign rfl) rfl ?_
          refine L_nil ?_
          refine hK38 _ _ ?_
          refine T_seq fun K39 hK39 => ?_
          refine T_seq fun K40 hK40 => ?_
          refine T_region ?_
          refine L_y (y_move rfl) rfl ?_
          refine L_y ((by first | exact y_notD rfl | exact y_not rfl)) rfl ?_
          refine L_nil ?_
          refine hK40 _ _ ?_
          refine T_condB rfl (fun h73 => ?_) (fun h73 => ?_)
          ·
            refine T_seq fun K41 hK41 => ?_
            refine T_region ?_
            refine L_y (y_build rfl (show _ = some (cmf zCm).toArray by kernel_rfl)) rfl ?_
            refine L_o (o_stW S47 0 rfl rfl rfl (by rw [cmf_sz]; exact sz83) (by first | (rw [cmf_sz]; done) | (rw [cmf_sz]; rfl)) (fun u hu => cmf_one _ u (by rw [List.toList_toArray] at hu; exact hu)) fun w48 S48 => ?_)
            refine L_y (y_assign rfl) rfl ?_
            refine L_nil ?_
            refine hK41 _ _ ?_
            refine T_ret ?_
            repeat (first | with_reducible refine up_then ?_ | with_reducible refine up_in ?_)
            refine retct rfl rfl rfl (S48.blk 0 rfl) Tryz.underlying83 rfl (by rw [cmf_sz]; exact sz83) ?_
            exact get_out S48.like0 (g3 hid hp2 (h0f3 (by simpa using h73)))
          ·
            have hau := h1f3 (by simpa using h73)
            refine T_skip ?_
            refine hK39 _ _ ?_
            refine T_seq fun K42 hK42 => ?_
            refine T_region ?_
            refine L_y (y_move rfl) rfl ?_
            refine L_o (o_call Tryz.func78 rfl rfl (rline s3 wTime w46 (by omega) (by decide)) rfl rfl ?_)
            rintro e49 w49 ⟨v49, rfl, l49, hu49⟩
            refine ⟨_, rfl, ?_⟩
            have S49 := S47.like l49
            obtain ⟨tn, s4, f4, hvf4, h1f4, h0f4, hlf4, hmf4⟩ := lineV_b wTime s3
            rw [hvf4] at hu49
            subst hu49
            refine L_y (y_move rfl) rfl ?_
            refine L_y (y_extract rfl rfl) rfl ?_
            refine L_y (y_extract rfl rfl) rfl ?_
            refine L_y (y_extract rfl rfl) rfl ?_
            refine L_y (y_assign rfl) rfl ?_
            refine L_y (y_assign rfl) rfl ?_
            refine L_y (y_assign rfl) rfl ?_
            refine L_nil ?_
            refine hK42 _ _ ?_
            refine T_seq fun K43 hK43 => ?_
            refine T_region ?_
            refine L_y (y_move rfl) rfl ?_
            refine L_o (o_call Tryz.func49 rfl rfl (rnumber ⟨tn.toArray⟩ w49) rfl rfl ?_)
            rintro e50 w50 ⟨v50, rfl, l50, hu50⟩
            refine ⟨_, rfl, ?_⟩
            have S50 := S49.like l50
            obtain ⟨va, vb, hnv, hnc⟩ := numR_b tn
            have hnv2 : numR (⟨tn.toArray⟩ : ByteArray).data.toList = .tuple #[.int .i64 va, .int .i64 vb] := hnv
            rw [hnv2] at hu50
            subst hu50
            refine L_y (y_move rfl) rfl ?_
            refine L_y (y_extract rfl rfl) rfl ?_
            refine L_y (y_extract rfl rfl) rfl ?_
            refine L_y (y_assign rfl) rfl ?_
            refine L_y (y_assign rfl) rfl ?_
            refine L_nil ?_
            refine hK43 _ _ ?_
            refine T_seq fun K44 hK44 => ?_
            refine T_seq fun K45 hK45 => ?_
            refine T_region ?_
            refine L_y (y_move rfl) rfl ?_
            refine L_y ((by first | exact y_notD rfl | exact y_not rfl)) rfl ?_
            refine L_y (y_move rfl) rfl ?_
            refine L_splitB 88 rfl (fun h88 => ?_) (fun h88 => ?_)
            ·
              refine L_gno rfl rfl rfl ?_
              refine L_gno rfl rfl rfl ?_
              refine L_y ((by first | exact y_pickT rfl rfl | exact y_pickF rfl rfl)) rfl ?_
              refine L_y (y_move rfl) rfl ?_
              refine L_gno rfl rfl rfl ?_
              refine L_gno rfl rfl rfl ?_
              refine L_y ((by first | exact y_pickT rfl rfl | exact y_pickF rfl rfl)) rfl ?_
              refine L_y (y_move rfl) rfl ?_
              refine L_gno rfl rfl rfl ?_
              refine L_gno rfl rfl rfl ?_
              refine L_gno rfl rfl rfl ?_
              refine L_y ((by first | exact y_pickT rfl rfl | exact y_pickF rfl rfl)) rfl ?_
              refine L_nil ?_
              refine hK45 _ _ ?_
              refine T_true rfl ?_
              refine T_seq fun K46 hK46 => ?_
              refine T_region ?_
              refine L_y (y_build rfl (show _ = some (cmf zCm).toArray by kernel_rfl)) rfl ?_
              refine L_o (o_stW S50 0 rfl rfl rfl (by rw [cmf_sz]; exact sz83) (by first | (rw [cmf_sz]; done) | (rw [cmf_sz]; rfl)) (fun u hu => cmf_one _ u (by rw [List.toList_toArray] at hu; exact hu)) fun w52 S52 => ?_)
              refine L_y (y_assign rfl) rfl ?_
              refine L_nil ?_
              refine hK46 _ _ ?_
              refine T_ret ?_
              repeat (first | with_reducible refine up_then ?_ | with_reducible refine up_in ?_)
              refine retct rfl rfl rfl (S52.blk 0 rfl) Tryz.underlying83 rfl (by rw [cmf_sz]; exact sz83) ?_
              first | exact get_out S52.like0 (g4 hid hp2 hau (numb_bad h1f4 h0f4 (.inl (by simpa using h88)))) | exact get_out S52.like0 (g4 hid hp2 hau (numb_bad h1f4 h0f4 (.inr (hnc.resolve_left (fun h => h92 h.1)).2))) | exact get_out S52.like0 (g5 hid hp2 hau (numb_good h1f4 (by simpa using h88) (hnc.resolve_right (fun h => h92 (by omega))).2.1) (by first | exact textR_n h100 | exact textR_e h96))
            ·
              refine L_gyes rfl rfl ?_
              refine L_y (y_move rfl) rfl ?_
              refine L_gyes rfl rfl ?_
              refine L_y (y_neq rfl rfl) rfl ?_
              refine L_y ((by first | exact y_pickT rfl rfl | exact y_pickF rfl rfl)) rfl ?_
              refine L_y (y_move rfl) rfl ?_
              refine L_split 92 rfl (fun h92 => ?_) (fun h92 => ?_)
              ·
                refine L_gno rfl rfl rfl ?_
                refine L_gno rfl rfl rfl ?_
                refine L_y ((by first | exact y_pickT rfl rfl | exact y_pickF rfl rfl)) rfl ?_
                refine L_y (y_move rfl) rfl ?_
                refine L_gno rfl rfl rfl ?_
                refine L_gno rfl rfl rfl ?_
                refine L_gno rfl rfl rfl ?_
                refine L_y ((by first | exact y_pickT rfl rfl | exact y_pickF rfl rfl)) rfl ?_
                refine L_nil ?_
                refine hK45 _ _ ?_
                refine T_true rfl ?_
                refine T_seq fun K47 hK47 => ?_
                refine T_region ?_
                refine L_y (y_build rfl (show _ = some (cmf zCm).toArray by kernel_rfl)) rfl ?_
                refine L_o (o_stW S50 0 rfl rfl rfl (by rw [cmf_sz]; exact sz83) (by first | (rw [cmf_sz]; done) | (rw [cmf_sz]; rfl)) (fun u hu => cmf_one _ u (by rw [List.toList_toArray] at hu; exact hu)) fun w54 S54 => ?_)
                refine L_y (y_assign rfl) rfl ?_
                refine L_nil ?_
                refine hK47 _ _ ?_
                refine T_ret ?_
                repeat (first | with_reducible refine up_then ?_ | with_reducible refine up_in ?_)
                refine retct rfl rfl rfl (S54.blk 0 rfl) Tryz.underlying83 rfl (by rw [cmf_sz]; exact sz83) ?_
                first | exact get_out S54.like0 (g4 hid hp2 hau (numb_bad h1f4 h0f4 (.inl (by simpa using h88)))) | exact get_out S54.like0 (g4 hid hp2 hau (numb_bad h1f4 h0f4 (.inr (hnc.resolve_left (fun h => h92 h.1)).2))) | exact get_out S54.like0 (g5 hid hp2 hau (numb_good h1f4 (by simpa using h88) (hnc.resolve_right (fun h => h92 (by omega))).2.1) (by first | exact textR_n h100 | exact textR_e h96))
              ·
                refine L_gyes rfl rfl ?_
                refine L_y (y_move rfl) rfl ?_
                refine L_gyes rfl rfl ?_
                refine L_y (y_seql rfl rfl) rfl ?_
                refine L_y ((by first | exact y_pickT rfl rfl | exact y_pickF rfl rfl)) rfl ?_
                refine L_y (y_move rfl) rfl ?_
                refine L_split 96 rfl (fun h96 => ?_) (fun h96 => ?_)
                ·
                  refine L_gno rfl rfl rfl ?_
                  refine L_gno rfl rfl rfl ?_
                  refine L_gno rfl rfl rfl ?_
                  refine L_y ((by first | exact y_pickT rfl rfl | exact y_pickF rfl rfl)) rfl ?_
                  refine L_nil ?_
                  refine hK45 _ _ ?_
                  refine T_true rfl ?_
                  refine T_seq fun K48 hK48 => ?_
                  refine T_region ?_
                  refine L_y (y_build rfl (show _ = some (cmf zCm).toArray by kernel_rfl)) rfl ?_
                  refine L_o (o_stW S50 0 rfl rfl rfl (by rw [cmf_sz]; exact sz83) (by first | (rw [cmf_sz]; done) | (rw [cmf_sz]; rfl)) (fun u hu => cmf_one _ u (by rw [List.toList_toArray] at hu; exact hu)) fun w56 S56 => ?_)
                  refine L_y (y_assign rfl) rfl ?_
                  refine L_nil ?_
                  refine hK48 _ _ ?_
                  refine T_ret ?_
                  repeat (first | with_reducible refine up_then ?_ | with_reducible refine up_in ?_)
                  refine retct rfl rfl rfl (S56.blk 0 rfl) Tryz.underlying83 rfl (by rw [cmf_sz]; exact sz83) ?_
                  first | exact get_out S56.like0 (g4 hid hp2 hau (numb_bad h1f4 h0f4 (.inl (by simpa using h88)))) | exact get_out S56.like0 (g4 hid hp2 hau (numb_bad h1f4 h0f4 (.inr (hnc.resolve_left (fun h => h92 h.1)).2))) | exact get_out S56.like0 (g5 hid hp2 hau (numb_good h1f4 (by simpa using h88) (hnc.resolve_right (fun h => h92 (by omega))).2.1) (by first | exact textR_n h100 | exact textR_e h96))
                ·
                  have h0s : 0 < s4.length := Nat.pos_of_ne_zero (fun e => h96 (by rw [List.eq_nil_of_length_eq_zero e]))
                  have hbs4 := bsz s4
                  refine L_gyes rfl rfl ?_
                  refine L_y (y_move rfl) rfl ?_
                  refine L_gyes rfl rfl ?_
                  refine L_y (y_idxS Tryz.underlying9 rfl rfl inferInstance (by omega)) rfl ?_
                  refine L_gyes rfl rfl ?_
                  refine L_y (y_neq rfl rfl) rfl ?_
                  refine L_y ((by first | exact y_pickT rfl rfl | exact y_pickF rfl rfl)) rfl ?_
                  refine L_nil ?_
                  refine hK45 _ _ ?_
                  refine T_cond rfl (fun h100 => ?_) (fun h100 => ?_)
                  ·
                    refine T_seq fun K49 hK49 => ?_
                    refine T_region ?_
                    refine L_y (y_build rfl (show _ = some (cmf zCm).toArray by kernel_rfl)) rfl ?_
                    refine L_o (o_stW S50 0 rfl rfl rfl (by rw [cmf_sz]; exact sz83) (by first | (rw [cmf_sz]; done) | (rw [cmf_sz]; rfl)) (fun u hu => cmf_one _ u (by rw [List.toList_toArray] at hu; exact hu)) fun w57 S57 => ?_)
                    refine L_y (y_assign rfl) rfl ?_
                    refine L_nil ?_
                    refine hK49 _ _ ?_
                    refine T_ret ?_
                    repeat (first | with_reducible refine up_then ?_ | with_reducible refine up_in ?_)
                    refine retct rfl rfl rfl (S57.blk 0 rfl) Tryz.underlying83 rfl (by rw [cmf_sz]; exact sz83) ?_
                    first | exact get_out S57.like0 (g4 hid hp2 hau (numb_bad h1f4 h0f4 (.inl (by simpa using h88)))) | exact get_out S57.like0 (g4 hid hp2 hau (numb_bad h1f4 h0f4 (.inr (hnc.resolve_left (fun h => h92 h.1)).2))) | exact get_out S57.like0 (g5 hid hp2 hau (numb_good h1f4 (by simpa using h88) (hnc.resolve_right (fun h => h92 (by omega))).2.1) (by first | exact textR_n h100 | exact textR_e h96))
                  ·
                    subst hn
                    obtain ⟨hvb, hok, rfl⟩ := hnc.resolve_right (fun h => h92 (by omega))
                    have hpx : preP s4 [10] := (pre1 s4).2 ⟨Nat.pos_of_ne_zero (fun e => h96 (by rw [List.eq_nil_of_length_eq_zero e])), Classical.byContradiction fun e => h100 e⟩
                    have h0s : 0 < s4.length := ((pre1 s4).1 hpx).1
                    have hg : getR s = some (⟨t, ps, au, numV tn, s4.drop 1⟩ : CmL) := g6 hid hp2 hau (numb_good h1f4 (by simpa using h88) hok) (by unfold textR; exact if_pos hpx)
                    refine T_skip ?_
                    refine hK44 _ _ ?_
                    refine T_seq fun K50 hK50 => ?_
                    refine T_region ?_
                    refine L_y (y_move rfl) rfl ?_
                    refine L_y (y_fieldA 34 Tryz.underlying83 rfl sz3 rfl rfl rfl) rfl ?_
                    refine L_o (o_st1 S50 1 rfl rfl rfl rfl sz3 (by rw [cmf_sz]; omega) fun w58 S58 => ?_)
                    have S59 := S58.blkc 1 rfl (st34 _ _)
                    refine L_nil ?_
                    refine hK50 _ _ ?_
                    refine T_seq fun K51 hK51 => ?_
                    refine T_region ?_
                    refine L_y (y_move rfl) rfl ?_
                    refine L_y (y_ssliceL (l := 1) Tryz.underlying9 rfl rfl (Nt.mk (by omega)) (by omega)) rfl ?_
                    rw [ext_drop]
                    refine L_y (y_fieldA 35 Tryz.underlying83 rfl sz9 rfl rfl rfl) rfl ?_
                    refine L_o (o_st1 S59 1 rfl rfl rfl rfl sz9 (by rw [cmf_sz]; omega) fun w60 S60 => ?_)
                    have S61 := S60.blkc 1 rfl (st35 _ _)
                    refine L_nil ?_
                    refine hK51 _ _ ?_
                    refine T_seq fun K52 hK52 => ?_
                    refine T_region ?_
                    refine L_y (y_ldW Tryz.underlying83 rfl sz83 rfl (S61.blk 1 rfl) (cm_whole _)) rfl ?_
                    refine L_o (o_call Tryz.func80 rfl rfl (rcheck (cmOf ⟨t, ps, au, numV tn, s4.drop 1⟩ A ps.length c) w60 (S61.row 3 rfl)) rfl rfl ?_)
                    rintro e62 w62 ⟨v62, rfl, l62, rfl⟩
                    refine ⟨_, rfl, ?_⟩
                    have S62 := S61.like l62
                    refine L_y (y_assign rfl) rfl ?_
                    refine L_nil ?_
                    refine hK52 _ _ ?_
                    refine T_seq fun K53 hK53 => ?_
                    refine T_seq fun K54 hK54 => ?_
                    refine T_region ?_
                    refine L_y (y_move rfl) rfl ?_
                    refine L_y (y_neq rfl rfl) rfl ?_
                    refine L_nil ?_
                    refine hK54 _ _ ?_
                    refine T_cond rfl (fun h110 => ?_) (fun h110 => ?_)
                    ·
                      refine T_seq fun K55 hK55 => ?_
                      refine T_region ?_
                      refine L_y (y_build rfl (show _ = some (cmf zCm).toArray by kernel_rfl)) rfl ?_
                      refine L_y (y_move rfl) rfl ?_
                      refine L_o (o_stW S62 0 rfl rfl rfl (by rw [cmf_sz]; exact sz83) (by first | (rw [cmf_sz]; done) | (rw [cmf_sz]; rfl)) (fun u hu => cmf_one _ u (by rw [List.toList_toArray] at hu; exact hu)) fun w63 S63 => ?_)
                      refine L_y (y_assign rfl) rfl ?_
                      refine L_nil ?_
                      refine hK55 _ _ ?_
                      refine T_ret ?_
                      repeat (first | with_reducible refine up_then ?_ | with_reducible refine up_in ?_)
                      refine retct rfl rfl rfl (S63.blk 0 rfl) Tryz.underlying83 rfl (by rw [cmf_sz]; exact sz83) ?_
                      have hgo := go_some hg
                      have h0 : ¬ chk (cmO (⟨t, ps, au, numV tn, s4.drop 1⟩ : CmL)) = 0 := fun e => h110 e
                      have hv : gval s = zL := by rw [hgo.2, if_neg h0]
                      rw [hv, hgo.1]
                      refine ⟨_, rfl, S63.like0, none, 0, fr_nil _ _ _, ?_⟩
                      exact congrArg (fun x => Value.tuple #[.agg (cmf x).toArray, _]) zL_cm.symm
                    ·
                      refine T_skip ?_
                      refine hK53 _ _ ?_
                      refine T_seq fun K56 hK56 => ?_
                      refine T_region ?_
                      refine L_y (y_ldW Tryz.underlying83 rfl sz83 rfl (S62.blk 1 rfl) (cm_whole _)) rfl ?_
                      refine L_o (o_stW S62 0 rfl rfl rfl (by rw [cmf_sz]; exact sz83) (by first | (rw [cmf_sz]; done) | (rw [cmf_sz]; rfl)) (fun u hu => cmf_one _ u (by rw [List.toList_toArray] at hu; exact hu)) fun w64 S64 => ?_)
                      refine L_y (y_assign rfl) rfl ?_
                      refine L_nil ?_
                      refine hK56 _ _ ?_
                      refine T_ret ?_
                      repeat (first | with_reducible refine up_then ?_ | with_reducible refine up_in ?_)
                      refine retct rfl rfl rfl (S64.blk 0 rfl) Tryz.underlying83 rfl (by rw [cmf_sz]; exact sz83) ?_
                      have hgo := go_some hg
                      have h0 : chk (cmO (⟨t, ps, au, numV tn, s4.drop 1⟩ : CmL)) = 0 := Classical.byContradiction fun e => h110 e
                      have hv : gval s = (⟨t, ps, au, numV tn, s4.drop 1⟩ : CmL) := by rw [hgo.2, if_pos h0]
                      rw [hv, hgo.1, h0]
                      exact ⟨_, rfl, S64.like0, A, c, Fr.of_own (S64.own 3 rfl), rfl⟩


set_option maxRecDepth 100000 in
theorem rgetMB (B : Option Addr) (m d : Nat) (s : List UInt8) (w0 : World) (hb : Rs w0 1 B m d (bL s)) (hl : s.length ≤ 90000) :
    Calls Tryz.prog 43 #[.slice B m d] w0 fun e w' => ∃ u, e = .returned u ∧ Like w0 w' ∧ u = .tuple #[.agg (mkf (mkOf (mval s))).toArray, .int .i64 (mcode s)] := by
  refine enter1 (env := [(0, .slice B m d)]) [.slice B m d] Tryz.func43 rfl Tryz.ntmps43 rfl rfl ?_
  have S0 := St.start w0 noM
  refine T_seq fun K1 hK1 => ?_
  refine T_region ?_
  refine L_o (o_alloc zz87 S0 rfl fun b1 w1 hb1 S1 => ?_)
  refine L_y (y_assign rfl) rfl ?_
  refine L_nil ?_
  refine hK1 _ _ ?_
  refine T_seq fun K2 hK2 => ?_
  refine T_region ?_
  refine L_o (o_alloc zz87 S1 rfl fun b2 w2 hb2 S2 => ?_)
  have S3 : Zx.St w0 noM [blk b1 87 (mkf zMk).toArray, blk b2 87 (mkf zMk).toArray] w2 := S2.cast (by kernel_rfl)
  refine L_nil ?_
  refine hK2 _ _ ?_
  refine T_seq fun K3 hK3 => ?_
  refine T_region ?_
  refine L_y (y_move rfl) rfl ?_
  refine L_y (y_bstr Tryz.underlying22 Tryz.underlying5 Tryz.underlying9 rfl (by first | exact S3.rd hb)) rfl ?_
  refine L_o (o_call Tryz.func78 rfl rfl (rline s wObject w2 (by omega) (by decide)) rfl rfl ?_)
  rintro e4 w4 ⟨v4, rfl, l4, hu4⟩
  refine ⟨_, rfl, ?_⟩
  have S4 := S3.like l4
  obtain ⟨ta, s1, f1, hvf1, h1f1, h0f1, hlf1, hmf1⟩ := lineV_b wObject s
  rw [hvf1] at hu4
  subst hu4
  refine L_y (y_move rfl) rfl ?_
  refine L_y (y_extract rfl rfl) rfl ?_
  refine L_y (y_extract rfl rfl) rfl ?_
  refine L_y (y_extract rfl rfl) rfl ?_
  refine L_y (y_assign rfl) rfl ?_
  refine L_y (y_assign rfl) rfl ?_
  refine L_y (y_assign rfl) rfl ?_
  refine L_nil ?_
  refine hK3 _ _ ?_
  refine T_seq fun K4 hK4 => ?_
  refine T_region ?_
  refine L_y (y_move rfl) rfl ?_
  refine L_o (o_call Tryz.func79 rfl rfl (rreadN ta w4) rfl rfl ?_)
  rintro e5 w5 ⟨v5, rfl, l5, o, ho, rfl⟩
  refine ⟨_, rfl, ?_⟩
  have S5 := S4.like l5
  refine L_y (y_move rfl) rfl ?_
  refine L_y (y_extract rfl rfl) rfl ?_
  refine L_y (y_extract rfl rfl) rfl ?_
  refine L_o (o_alloc zz41 S5 rfl fun b6 w6 hb6 S6 => ?_)
  refine L_o (o_stW S6 2 rfl rfl rfl (by rw [List.size_toArray, idf_len]; exact sz41) (by rw [List.size_toArray, idf_len]; simp [Value.cells, idf_len]) (fun u hu => bL_one _ u (by rw [List.toList_toArray] at hu; exact hu)) fun w7 S7 => ?_)
  refine L_y (y_assign rfl) rfl ?_
  refine L_nil ?_
  refine hK4 _ _ ?_
  refine T_seq fun K5 hK5 => ?_
  refine T_seq fun K6 hK6 => ?_
  refine T_region ?_
  refine L_y (y_move rfl) rfl ?_
  refine L_y ((by first | exact y_notD rfl | exact y_not rfl)) rfl ?_
  refine L_y (y_move rfl) rfl ?_
  refine L_splitB 29 rfl (fun h29 => ?_) (fun h29 => ?_)
  ·
    refine L_gno rfl rfl rfl ?_
    refine L_gno rfl rfl rfl ?_
    refine L_y ((by first | exact y_pickT rfl rfl | exact y_pickF rfl rfl)) rfl ?_
    refine L_nil ?_
    refine hK6 _ _ ?_
    refine T_true rfl ?_
    refine T_seq fun K7 hK7 => ?_
    refine T_region ?_
    refine L_y (y_build rfl (show _ = some (mkf zMk).toArray by kernel_rfl)) rfl ?_
    refine L_o (o_stW S7 0 rfl rfl rfl (by rw [mkf_sz]; exact sz87) (by first | (rw [mkf_sz]; done) | (rw [mkf_sz]; rfl)) (fun u hu => mkf_one _ u (by rw [List.toList_toArray] at hu; exact hu)) fun w9 S9 => ?_)
    refine L_y (y_assign rfl) rfl ?_
    refine L_nil ?_
    refine hK7 _ _ ?_
    refine T_ret ?_
    repeat (first | with_reducible refine up_then ?_ | with_reducible refine up_in ?_)
    refine retct rfl rfl rfl (S9.blk 0 rfl) Tryz.underlying87 rfl (by rw [mkf_sz]; exact sz87) ?_
    exact get_outM S9.like0 (m1 (id_bad h1f1 h0f1 (by first | exact .inl (by simpa using h29) | exact .inr h32)))
  ·
    refine L_gyes rfl rfl ?_
    refine L_y (y_move rfl) rfl ?_
    refine L_gyes rfl rfl ?_
    refine L_y (y_neq rfl rfl) rfl ?_
    refine L_y ((by first | exact y_pickT rfl rfl | exact y_pickF rfl rfl)) rfl ?_
    refine L_nil ?_
    refine hK6 _ _ ?_
    refine T_cond rfl (fun h32 => ?_) (fun h32 => ?_)
    ·
      refine T_seq fun K8 hK8 => ?_
      refine T_region ?_
      refine L_y (y_build rfl (show _ = some (mkf zMk).toArray by kernel_rfl)) rfl ?_
      refine L_o (o_stW S7 0 rfl rfl rfl (by rw [mkf_sz]; exact sz87) (by first | (rw [mkf_sz]; done) | (rw [mkf_sz]; rfl)) (fun u hu => mkf_one _ u (by rw [List.toList_toArray] at hu; exact hu)) fun w10 S10 => ?_)
      refine L_y (y_assign rfl) rfl ?_
      refine L_nil ?_
      refine hK8 _ _ ?_
      refine T_ret ?_
      repeat (first | with_reducible refine up_then ?_ | with_reducible refine up_in ?_)
      refine retct rfl rfl rfl (S10.blk 0 rfl) Tryz.underlying87 rfl (by rw [mkf_sz]; exact sz87) ?_
      exact get_outM S10.like0 (m1 (id_bad h1f1 h0f1 (by first | exact .inl (by simpa using h29) | exact .inr h32)))
    ·
      have hid := id_good ho h1f1 (by simpa using h29) (Classical.byContradiction fun e => h32 e)
      have hl1 := hmf1 (by simpa using h29)
      refine T_skip ?_
      refine hK5 _ _ ?_
      refine T_seq fun K9 hK9 => ?_
      refine T_region ?_
      refine L_y (y_ldW Tryz.underlying41 rfl sz41 rfl (S7.blk 2 rfl) (⟨by rw [List.drop_zero]; exact List.take_of_length_le (by simp [idf_len]), by rw [idf_len]⟩ : _ = idf _ ∧ _)) rfl ?_
      refine L_y (y_fieldA 0 Tryz.underlying87 rfl sz41 rfl rfl rfl) rfl ?_
      refine L_o (o_stR S7 1 rfl rfl rfl (by rw [List.size_toArray, idf_len]; exact sz41) (by rw [List.size_toArray, idf_len, mkf_sz]; omega) (fun u hu => bL_one _ u (by rw [List.toList_toArray] at hu; exact hu)) fun w11 S11 => ?_)
      have S12 := S11.blkc 1 rfl (show _ = (mkf (⟨o, 0, ⟨#[]⟩, 0, ⟨#[]⟩⟩ : Mk)).toArray from stm zMk o)
      have S13 : Zx.St w0 noM [blk b1 87 (mkf zMk).toArray, blk b2 87 (mkf (⟨o, 0, ⟨#[]⟩, 0, ⟨#[]⟩⟩ : Mk)).toArray, blk b6 41 (idf o).toArray] w11 := S12.cast (by kernel_rfl)
      refine L_nil ?_
      refine hK9 _ _ ?_
      refine T_seq fun K10 hK10 => ?_
      refine T_region ?_
      refine L_y (y_move rfl) rfl ?_
      refine L_o (o_call Tryz.func78 rfl rfl (rline s1 wKind w11 (by omega) (by decide)) rfl rfl ?_)
      rintro e14 w14 ⟨v14, rfl, l14, hu14⟩
      refine ⟨_, rfl, ?_⟩
      have S14 := S13.like l14
      obtain ⟨tk, s2, f2, hvf2, h1f2, h0f2, hlf2, hmf2⟩ := lineV_b wKind s1
      rw [hvf2] at hu14
      subst hu14
      refine L_y (y_move rfl) rfl ?_
      refine L_y (y_extract rfl rfl) rfl ?_
      refine L_y (y_extract rfl rfl) rfl ?_
      refine L_y (y_extract rfl rfl) rfl ?_
      refine L_y (y_assign rfl) rfl ?_
      refine L_y (y_assign rfl) rfl ?_
      refine L_y (y_assign rfl) rfl ?_
      refine L_nil ?_
      refine hK10 _ _ ?_
      refine T_seq fun K11 hK11 => ?_
      refine T_region ?_
      refine L_y (y_move rfl) rfl ?_
      refine L_o (o_call Tryz.func49 rfl rfl (rnumber ⟨tk.toArray⟩ w14) rfl rfl ?_)
      rintro e15 w15 ⟨v15, rfl, l15, hu15⟩
      refine ⟨_, rfl, ?_⟩
      have S15 := S14.like l15
      obtain ⟨va1, vb1, hnv1, hnc1⟩ := numR_b tk
      have hnw1 : numR (⟨tk.toArray⟩ : ByteArray).data.toList = .tuple #[.int .i64 va1, .int .i64 vb1] := hnv1
      rw [hnw1] at hu15
      subst hu15
      refine L_y (y_move rfl) rfl ?_
      refine L_y (y_extract rfl rfl) rfl ?_
      refine L_y (y_extract rfl rfl) rfl ?_
      refine L_y (y_assign rfl) rfl ?_
      refine L_y (y_assign rfl) rfl ?_
      refine L_nil ?_
      refine hK11 _ _ ?_
      refine T_seq fun K12 hK12 => ?_
      refine T_seq fun K13 hK13 => ?_
      refine T_region ?_
      refine L_y (y_move rfl) rfl ?_
      refine L_y ((by first | exact y_notD rfl | exact y_not rfl)) rfl ?_
      refine L_y (y_move rfl) rfl ?_
      refine L_splitB 49 rfl (fun h49 => ?_) (fun h49 => ?_)
      ·
        refine L_gno rfl rfl rfl ?_
        refine L_gno rfl rfl rfl ?_
        refine L_y ((by first | exact y_pickT rfl rfl | exact y_pickF rfl rfl)) rfl ?_
        refine L_y (y_move rfl) rfl ?_
        refine L_gno rfl rfl rfl ?_
        refine L_gno rfl rfl rfl ?_
        refine L_y ((by first | exact y_pickT rfl rfl | exact y_pickF rfl rfl)) rfl ?_
        refine L_nil ?_
        refine hK13 _ _ ?_
        refine T_true rfl ?_
        refine T_seq fun K14 hK14 => ?_
        refine T_region ?_
        refine L_y (y_build rfl (show _ = some (mkf zMk).toArray by kernel_rfl)) rfl ?_
        refine L_o (o_stW S15 0 rfl rfl rfl (by rw [mkf_sz]; exact sz87) (by first | (rw [mkf_sz]; done) | (rw [mkf_sz]; rfl)) (fun u hu => mkf_one _ u (by rw [List.toList_toArray] at hu; exact hu)) fun w17 S17 => ?_)
        refine L_y (y_assign rfl) rfl ?_
        refine L_nil ?_
        refine hK14 _ _ ?_
        refine T_ret ?_
        repeat (first | with_reducible refine up_then ?_ | with_reducible refine up_in ?_)
        refine retct rfl rfl rfl (S17.blk 0 rfl) Tryz.underlying87 rfl (by rw [mkf_sz]; exact sz87) ?_
        first | exact get_outM S17.like0 (m2 hid (numb_bad h1f2 h0f2 (.inl (by simpa using h49)))) | exact get_outM S17.like0 (m2 hid (numb_bad h1f2 h0f2 (.inr (hnc1.resolve_left (fun h => h53 h.1)).2))) | exact get_outM S17.like0 (m3 hid (numb_good h1f2 (by simpa using h49) (hnc1.resolve_right (fun h => h53 (by omega))).2.1) (by have h8 := (hnc1.resolve_right (fun h => h53 (by omega))).2.2; omega))
      ·
        refine L_gyes rfl rfl ?_
        refine L_y (y_move rfl) rfl ?_
        refine L_gyes rfl rfl ?_
        refine L_y (y_neq rfl rfl) rfl ?_
        refine L_y ((by first | exact y_pickT rfl rfl | exact y_pickF rfl rfl)) rfl ?_
        refine L_y (y_move rfl) rfl ?_
        refine L_split 53 rfl (fun h53 => ?_) (fun h53 => ?_)
        ·
          refine L_gno rfl rfl rfl ?_
          refine L_gno rfl rfl rfl ?_
          refine L_y ((by first | exact y_pickT rfl rfl | exact y_pickF rfl rfl)) rfl ?_
          refine L_nil ?_
          refine hK13 _ _ ?_
          refine T_true rfl ?_
          refine T_seq fun K15 hK15 => ?_
          refine T_region ?_
          refine L_y (y_build rfl (show _ = some (mkf zMk).toArray by kernel_rfl)) rfl ?_
          refine L_o (o_stW S15 0 rfl rfl rfl (by rw [mkf_sz]; exact sz87) (by first | (rw [mkf_sz]; done) | (rw [mkf_sz]; rfl)) (fun u hu => mkf_one _ u (by rw [List.toList_toArray] at hu; exact hu)) fun w19 S19 => ?_)
          refine L_y (y_assign rfl) rfl ?_
          refine L_nil ?_
          refine hK15 _ _ ?_
          refine T_ret ?_
          repeat (first | with_reducible refine up_then ?_ | with_reducible refine up_in ?_)
          refine retct rfl rfl rfl (S19.blk 0 rfl) Tryz.underlying87 rfl (by rw [mkf_sz]; exact sz87) ?_
          first | exact get_outM S19.like0 (m2 hid (numb_bad h1f2 h0f2 (.inl (by simpa using h49)))) | exact get_outM S19.like0 (m2 hid (numb_bad h1f2 h0f2 (.inr (hnc1.resolve_left (fun h => h53 h.1)).2))) | exact get_outM S19.like0 (m3 hid (numb_good h1f2 (by simpa using h49) (hnc1.resolve_right (fun h => h53 (by omega))).2.1) (by have h8 := (hnc1.resolve_right (fun h => h53 (by omega))).2.2; omega))
        ·
          refine L_gyes rfl rfl ?_
          refine L_y (y_move rfl) rfl ?_
          refine L_gyes rfl rfl ?_
          refine L_y (y_gtr rfl rfl) rfl ?_
          refine L_y ((by first | exact y_pickT rfl rfl | exact y_pickF rfl rfl)) rfl ?_
          refine L_nil ?_
          refine hK13 _ _ ?_
          refine T_cond rfl (fun h56 => ?_) (fun h56 => ?_)
          ·
            refine T_seq fun K16 hK16 => ?_
            refine T_region ?_
            refine L_y (y_build rfl (show _ = some (mkf zMk).toArray by kernel_rfl)) rfl ?_
            refine L_o (o_stW S15 0 rfl rfl rfl (by rw [mkf_sz]; exact sz87) (by first | (rw [mkf_sz]; done) | (rw [mkf_sz]; rfl)) (fun u hu => mkf_one _ u (by rw [List.toList_toArray] at hu; exact hu)) fun w20 S20 => ?_)
            refine L_y (y_assign rfl) rfl ?_
            refine L_nil ?_
            refine hK16 _ _ ?_
            refine T_ret ?_
            repeat (first | with_reducible refine up_then ?_ | with_reducible refine up_in ?_)
            refine retct rfl rfl rfl (S20.blk 0 rfl) Tryz.underlying87 rfl (by rw [mkf_sz]; exact sz87) ?_
            first | exact get_outM S20.like0 (m2 hid (numb_bad h1f2 h0f2 (.inl (by simpa using h49)))) | exact get_outM S20.like0 (m2 hid (numb_bad h1f2 h0f2 (.inr (hnc1.resolve_left (fun h => h53 h.1)).2))) | exact get_outM S20.like0 (m3 hid (numb_good h1f2 (by simpa using h49) (hnc1.resolve_right (fun h => h53 (by omega))).2.1) (by have h8 := (hnc1.resolve_right (fun h => h53 (by omega))).2.2; omega))
          ·
            obtain ⟨hvb1, hok1, rfl⟩ := hnc1.resolve_right (fun h => h53 (by omega))
            have hkd := numb_good h1f2 (by simpa using h49) hok1
            have hl2 := hmf2 (by simpa using h49)
            have h9k : ¬ 9 < numV tk := by omega
            refine T_skip ?_
            refine hK12 _ _ ?_
            refine T_seq fun K17 hK17 => ?_
            refine T_region ?_
            refine L_y (y_move rfl) rfl ?_
            refine L_y (y_fieldA 32 Tryz.underlying87 rfl sz3 rfl rfl rfl) rfl ?_
            refine L_o (o_st1 S15 1 rfl rfl rfl rfl sz3 (by rw [mkf_sz]; omega) fun w21 S21 => ?_)
            have S22 := S21.blkc 1 rfl (show _ = (mkf (⟨o, (numV tk : Int), ⟨#[]⟩, 0, ⟨#[]⟩⟩ : Mk)).toArray from stm32 (⟨o, 0, ⟨#[]⟩, 0, ⟨#[]⟩⟩ : Mk) _)
            have S23 : Zx.St w0 noM [blk b1 87 (mkf zMk).toArray, blk b2 87 (mkf (⟨o, (numV tk : Int), ⟨#[]⟩, 0, ⟨#[]⟩⟩ : Mk)).toArray, blk b6 41 (idf o).toArray] w21 := S22.cast (by kernel_rfl)
            refine L_nil ?_
            refine hK17 _ _ ?_
            refine T_seq fun K18 hK18 => ?_
            refine T_region ?_
            refine L_y (y_move rfl) rfl ?_
            refine L_o (o_call Tryz.func78 rfl rfl (rline s2 wName w21 (by omega) (by decide)) rfl rfl ?_)
            rintro e24 w24 ⟨v24, rfl, l24, hu24⟩
            refine ⟨_, rfl, ?_⟩
            have S24 := S23.like l24
            obtain ⟨nm, s3, f3, hvf3, h1f3, h0f3, hlf3, hmf3⟩ := lineV_b wName s2
            rw [hvf3] at hu24
            subst hu24
            refine L_y (y_move rfl) rfl ?_
            refine L_y (y_extract rfl rfl) rfl ?_
            refine L_y (y_extract rfl rfl) rfl ?_
            refine L_y (y_extract rfl rfl) rfl ?_
            refine L_y (y_assign rfl) rfl ?_
            refine L_y (y_assign rfl) rfl ?_
            refine L_y (y_assign rfl) rfl ?_
            refine L_nil ?_
            refine hK18 _ _ ?_
            refine T_seq fun K19 hK19 => ?_
            refine T_seq fun K20 hK20 => ?_
            refine T_region ?_
            refine L_y (y_move rfl) rfl ?_
            refine L_y ((by first | exact y_notD rfl | exact y_not rfl)) rfl ?_
            refine L_nil ?_
            refine hK20 _ _ ?_
            refine T_condB rfl (fun h67 => ?_) (fun h67 => ?_)
            ·
              refine T_seq fun K21 hK21 => ?_
              refine T_region ?_
              refine L_y (y_build rfl (show _ = some (mkf zMk).toArray by kernel_rfl)) rfl ?_
              refine L_o (o_stW S24 0 rfl rfl rfl (by rw [mkf_sz]; exact sz87) (by first | (rw [mkf_sz]; done) | (rw [mkf_sz]; rfl)) (fun u hu => mkf_one _ u (by rw [List.toList_toArray] at hu; exact hu)) fun w25 S25 => ?_)
              refine L_y (y_assign rfl) rfl ?_
              refine L_nil ?_
              refine hK21 _ _ ?_
              refine T_ret ?_
              repeat (first | with_reducible refine up_then ?_ | with_reducible refine up_in ?_)
              refine retct rfl rfl rfl (S25.blk 0 rfl) Tryz.underlying87 rfl (by rw [mkf_sz]; exact sz87) ?_
              exact get_outM S25.like0 (m4 hid hkd (h0f3 (by simpa using h67)))
            ·
              have hnm := h1f3 (by simpa using h67)
              have hl3 := hmf3 (by simpa using h67)
              refine T_skip ?_
              refine hK19 _ _ ?_
              refine T_seq fun K22 hK22 => ?_
              refine T_region ?_
              refine L_y (y_move rfl) rfl ?_
              refine L_y (y_fieldA 33 Tryz.underlying87 rfl sz9 rfl rfl rfl) rfl ?_
              refine L_o (o_st1 S24 1 rfl rfl rfl rfl sz9 (by rw [mkf_sz]; omega) fun w26 S26 => ?_)
              have S27 := S26.blkc 1 rfl (show _ = (mkf (⟨o, (numV tk : Int), ⟨nm.toArray⟩, 0, ⟨#[]⟩⟩ : Mk)).toArray from stm33 (⟨o, (numV tk : Int), ⟨#[]⟩, 0, ⟨#[]⟩⟩ : Mk) _)
              have S28 : Zx.St w0 noM [blk b1 87 (mkf zMk).toArray, blk b2 87 (mkf (⟨o, (numV tk : Int), ⟨nm.toArray⟩, 0, ⟨#[]⟩⟩ : Mk)).toArray, blk b6 41 (idf o).toArray] w26 := S27.cast (by kernel_rfl)
              refine L_nil ?_
              refine hK22 _ _ ?_
              refine T_seq fun K23 hK23 => ?_
              refine T_region ?_
              refine L_y (y_move rfl) rfl ?_
              refine L_o (o_call Tryz.func78 rfl rfl (rline s3 wTime w26 (by omega) (by decide)) rfl rfl ?_)
              rintro e29 w29 ⟨v29, rfl, l29, hu29⟩
              refine ⟨_, rfl, ?_⟩
              have S29 := S28.like l29
              obtain ⟨tn, s4, f4, hvf4, h1f4, h0f4, hlf4, hmf4⟩ := lineV_b wTime s3
              rw [hvf4] at hu29
              subst hu29
              refine L_y (y_move rfl) rfl ?_
              refine L_y (y_extract rfl rfl) rfl ?_
              refine L_y (y_extract rfl rfl) rfl ?_
              refine L_y (y_extract rfl rfl) rfl ?_
              refine L_y (y_assign rfl) rfl ?_
              refine L_y (y_assign rfl) rfl ?_
              refine L_y (y_assign rfl) rfl ?_
              refine L_nil ?_
              refine hK23 _ _ ?_
              refine T_seq fun K24 hK24 => ?_
              refine T_region ?_
              refine L_y (y_move rfl) rfl ?_
              refine L_o (o_call Tryz.func49 rfl rfl (rnumber ⟨tn.toArray⟩ w29) rfl rfl ?_)
              rintro e30 w30 ⟨v30, rfl, l30, hu30⟩
              refine ⟨_, rfl, ?_⟩
              have S30 := S29.like l30
              obtain ⟨va2, vb2, hnv2, hnc2⟩ := numR_b tn
              have hnw2 : numR (⟨tn.toArray⟩ : ByteArray).data.toList = .tuple #[.int .i64 va2, .int .i64 vb2] := hnv2
              rw [hnw2] at hu30
              subst hu30
              refine L_y (y_move rfl) rfl ?_
              refine L_y (y_extract rfl rfl) rfl ?_
              refine L_y (y_extract rfl rfl) rfl ?_
              refine L_y (y_assign rfl) rfl ?_
              refine L_y (y_assign rfl) rfl ?_
              refine L_nil ?_
              refine hK24 _ _ ?_
              refine T_seq fun K25 hK25 => ?_
              refine T_seq fun K26 hK26 => ?_
              refine T_region ?_
              refine L_y (y_move rfl) rfl ?_
              refine L_y ((by first | exact y_notD rfl | exact y_not rfl)) rfl ?_
              refine L_y (y_move rfl) rfl ?_
              refine L_splitB 84 rfl (fun h84 => ?_) (fun h84 => ?_)
              ·
                refine L_gno rfl rfl rfl ?_
                refine L_gno rfl rfl rfl ?_
                refine L_y ((by first | exact y_pickT rfl rfl | exact y_pickF rfl rfl)) rfl ?_
                refine L_y (y_move rfl) rfl ?_
                refine L_gno rfl rfl rfl ?_
                refine L_gno rfl rfl rfl ?_
                refine L_y ((by first | exact y_pickT rfl rfl | exact y_pickF rfl rfl)) rfl ?_
                refine L_y (y_move rfl) rfl ?_
                refine L_gno rfl rfl rfl ?_
                refine L_gno rfl rfl rfl ?_
                refine L_gno rfl rfl rfl ?_
                refine L_y ((by first | exact y_pickT rfl rfl | exact y_pickF rfl rfl)) rfl ?_
                refine L_nil ?_
                refine hK26 _ _ ?_
                refine T_true rfl ?_
                refine T_seq fun K27 hK27 => ?_
                refine T_region ?_
                refine L_y (y_build rfl (show _ = some (mkf zMk).toArray by kernel_rfl)) rfl ?_
                refine L_o (o_stW S30 0 rfl rfl rfl (by rw [mkf_sz]; exact sz87) (by first | (rw [mkf_sz]; done) | (rw [mkf_sz]; rfl)) (fun u hu => mkf_one _ u (by rw [List.toList_toArray] at hu; exact hu)) fun w32 S32 => ?_)
                refine L_y (y_assign rfl) rfl ?_
                refine L_nil ?_
                refine hK27 _ _ ?_
                refine T_ret ?_
                repeat (first | with_reducible refine up_then ?_ | with_reducible refine up_in ?_)
                refine retct rfl rfl rfl (S32.blk 0 rfl) Tryz.underlying87 rfl (by rw [mkf_sz]; exact sz87) ?_
                first | exact get_outM S32.like0 (m5 hid hkd hnm (numb_bad h1f4 h0f4 (.inl (by simpa using h84)))) | exact get_outM S32.like0 (m5 hid hkd hnm (numb_bad h1f4 h0f4 (.inr (hnc2.resolve_left (fun h => h88 h.1)).2))) | exact get_outM S32.like0 (m6 hid hkd hnm (numb_good h1f4 (by simpa using h84) (hnc2.resolve_right (fun h => h88 (by omega))).2.1) (by first | exact textR_n h96 | exact textR_e h92))
              ·
                refine L_gyes rfl rfl ?_
                refine L_y (y_move rfl) rfl ?_
                refine L_gyes rfl rfl ?_
                refine L_y (y_neq rfl rfl) rfl ?_
                refine L_y ((by first | exact y_pickT rfl rfl | exact y_pickF rfl rfl)) rfl ?_
                refine L_y (y_move rfl) rfl ?_
                refine L_split 88 rfl (fun h88 => ?_) (fun h88 => ?_)
                ·
                  refine L_gno rfl rfl rfl ?_
                  refine L_gno rfl rfl rfl ?_
                  refine L_y ((by first | exact y_pickT rfl rfl | exact y_pickF rfl rfl)) rfl ?_
                  refine L_y (y_move rfl) rfl ?_
                  refine L_gno rfl rfl rfl ?_
                  refine L_gno rfl rfl rfl ?_
                  refine L_gno rfl rfl rfl ?_
                  refine L_y ((by first | exact y_pickT rfl rfl | exact y_pickF rfl rfl)) rfl ?_
                  refine L_nil ?_
                  refine hK26 _ _ ?_
                  refine T_true rfl ?_
                  refine T_seq fun K28 hK28 => ?_
                  refine T_region ?_
                  refine L_y (y_build rfl (show _ = some (mkf zMk).toArray by kernel_rfl)) rfl ?_
                  refine L_o (o_stW S30 0 rfl rfl rfl (by rw [mkf_sz]; exact sz87) (by first | (rw [mkf_sz]; done) | (rw [mkf_sz]; rfl)) (fun u hu => mkf_one _ u (by rw [List.toList_toArray] at hu; exact hu)) fun w34 S34 => ?_)
                  refine L_y (y_assign rfl) rfl ?_
                  refine L_nil ?_
                  refine hK28 _ _ ?_
                  refine T_ret ?_
                  repeat (first | with_reducible refine up_then ?_ | with_reducible refine up_in ?_)
                  refine retct rfl rfl rfl (S34.blk 0 rfl) Tryz.underlying87 rfl (by rw [mkf_sz]; exact sz87) ?_
                  first | exact get_outM S34.like0 (m5 hid hkd hnm (numb_bad h1f4 h0f4 (.inl (by simpa using h84)))) | exact get_outM S34.like0 (m5 hid hkd hnm (numb_bad h1f4 h0f4 (.inr (hnc2.resolve_left (fun h => h88 h.1)).2))) | exact get_outM S34.like0 (m6 hid hkd hnm (numb_good h1f4 (by simpa using h84) (hnc2.resolve_right (fun h => h88 (by omega))).2.1) (by first | exact textR_n h96 | exact textR_e h92))
                ·
                  refine L_gyes rfl rfl ?_
                  refine L_y (y_move rfl) rfl ?_
                  refine L_gyes rfl rfl ?_
                  refine L_y (y_seql rfl rfl) rfl ?_
                  refine L_y ((by first | exact y_pickT rfl rfl | exact y_pickF rfl rfl)) rfl ?_
                  refine L_y (y_move rfl) rfl ?_
                  refine L_split 92 rfl (fun h92 => ?_) (fun h92 => ?_)
                  ·
                    refine L_gno rfl rfl rfl ?_
                    refine L_gno rfl rfl rfl ?_
                    refine L_gno rfl rfl rfl ?_
                    refine L_y ((by first | exact y_pickT rfl rfl | exact y_pickF rfl rfl)) rfl ?_
                    refine L_nil ?_
                    refine hK26 _ _ ?_
                    refine T_true rfl ?_
                    refine T_seq fun K29 hK29 => ?_
                    refine T_region ?_
                    refine L_y (y_build rfl (show _ = some (mkf zMk).toArray by kernel_rfl)) rfl ?_
                    refine L_o (o_stW S30 0 rfl rfl rfl (by rw [mkf_sz]; exact sz87) (by first | (rw [mkf_sz]; done) | (rw [mkf_sz]; rfl)) (fun u hu => mkf_one _ u (by rw [List.toList_toArray] at hu; exact hu)) fun w36 S36 => ?_)
                    refine L_y (y_assign rfl) rfl ?_
                    refine L_nil ?_
                    refine hK29 _ _ ?_
                    refine T_ret ?_
                    repeat (first | with_reducible refine up_then ?_ | with_reducible refine up_in ?_)
                    refine retct rfl rfl rfl (S36.blk 0 rfl) Tryz.underlying87 rfl (by rw [mkf_sz]; exact sz87) ?_
                    first | exact get_outM S36.like0 (m5 hid hkd hnm (numb_bad h1f4 h0f4 (.inl (by simpa using h84)))) | exact get_outM S36.like0 (m5 hid hkd hnm (numb_bad h1f4 h0f4 (.inr (hnc2.resolve_left (fun h => h88 h.1)).2))) | exact get_outM S36.like0 (m6 hid hkd hnm (numb_good h1f4 (by simpa using h84) (hnc2.resolve_right (fun h => h88 (by omega))).2.1) (by first | exact textR_n h96 | exact textR_e h92))
                  ·
                    have h0s : 0 < s4.length := Nat.pos_of_ne_zero (fun e => h92 (by rw [List.eq_nil_of_length_eq_zero e]))
                    have hbs4 := bsz s4
                    refine L_gyes rfl rfl ?_
                    refine L_y (y_move rfl) rfl ?_
                    refine L_gyes rfl rfl ?_
                    refine L_y (y_idxS Tryz.underlying9 rfl rfl inferInstance (by omega)) rfl ?_
                    refine L_gyes rfl rfl ?_
                    refine L_y (y_neq rfl rfl) rfl ?_
                    refine L_y ((by first | exact y_pickT rfl rfl | exact y_pickF rfl rfl)) rfl ?_
                    refine L_nil ?_
                    refine hK26 _ _ ?_
                    refine T_cond rfl (fun h96 => ?_) (fun h96 => ?_)
                    ·
                      refine T_seq fun K30 hK30 => ?_
                      refine T_region ?_
                      refine L_y (y_build rfl (show _ = some (mkf zMk).toArray by kernel_rfl)) rfl ?_
                      refine L_o (o_stW S30 0 rfl rfl rfl (by rw [mkf_sz]; exact sz87) (by first | (rw [mkf_sz]; done) | (rw [mkf_sz]; rfl)) (fun u hu => mkf_one _ u (by rw [List.toList_toArray] at hu; exact hu)) fun w37 S37 => ?_)
                      refine L_y (y_assign rfl) rfl ?_
                      refine L_nil ?_
                      refine hK30 _ _ ?_
                      refine T_ret ?_
                      repeat (first | with_reducible refine up_then ?_ | with_reducible refine up_in ?_)
                      refine retct rfl rfl rfl (S37.blk 0 rfl) Tryz.underlying87 rfl (by rw [mkf_sz]; exact sz87) ?_
                      first | exact get_outM S37.like0 (m5 hid hkd hnm (numb_bad h1f4 h0f4 (.inl (by simpa using h84)))) | exact get_outM S37.like0 (m5 hid hkd hnm (numb_bad h1f4 h0f4 (.inr (hnc2.resolve_left (fun h => h88 h.1)).2))) | exact get_outM S37.like0 (m6 hid hkd hnm (numb_good h1f4 (by simpa using h84) (hnc2.resolve_right (fun h => h88 (by omega))).2.1) (by first | exact textR_n h96 | exact textR_e h92))
                    ·
                      obtain ⟨hvb2, hok2, rfl⟩ := hnc2.resolve_right (fun h => h88 (by omega))
                      have hpx : preP s4 [10] := (pre1 s4).2 ⟨h0s, Classical.byContradiction fun e => h96 e⟩
                      have hg : markR s = some (⟨o, numV tk, nm, numV tn, s4.drop 1⟩ : MkL) := m7 hid hkd h9k hnm (numb_good h1f4 (by simpa using h84) hok2) (by unfold textR; exact if_pos hpx)
                      refine T_skip ?_
                      refine hK25 _ _ ?_
                      refine T_seq fun K31 hK31 => ?_
                      refine T_region ?_
                      refine L_y (y_move rfl) rfl ?_
                      refine L_y (y_fieldA 34 Tryz.underlying87 rfl sz3 rfl rfl rfl) rfl ?_
                      refine L_o (o_st1 S30 1 rfl rfl rfl rfl sz3 (by rw [mkf_sz]; omega) fun w38 S38 => ?_)
                      have S39 := S38.blkc 1 rfl (show _ = (mkf (⟨o, (numV tk : Int), ⟨nm.toArray⟩, (numV tn : Int), ⟨#[]⟩⟩ : Mk)).toArray from stm34 (⟨o, (numV tk : Int), ⟨nm.toArray⟩, 0, ⟨#[]⟩⟩ : Mk) _)
                      have S40 : Zx.St w0 noM [blk b1 87 (mkf zMk).toArray, blk b2 87 (mkf (⟨o, (numV tk : Int), ⟨nm.toArray⟩, (numV tn : Int), ⟨#[]⟩⟩ : Mk)).toArray, blk b6 41 (idf o).toArray] w38 := S39.cast (by kernel_rfl)
                      refine L_nil ?_
                      refine hK31 _ _ ?_
                      refine T_seq fun K32 hK32 => ?_
                      refine T_region ?_
                      refine L_y (y_move rfl) rfl ?_
                      refine L_y (y_ssliceL (l := 1) Tryz.underlying9 rfl rfl (Nt.mk (by omega)) (by omega)) rfl ?_
                      rw [ext_drop]
                      refine L_y (y_fieldA 35 Tryz.underlying87 rfl sz9 rfl rfl rfl) rfl ?_
                      refine L_o (o_st1 S40 1 rfl rfl rfl rfl sz9 (by rw [mkf_sz]; omega) fun w41 S41 => ?_)
                      have S42 := S41.blkc 1 rfl (show _ = (mkf (⟨o, (numV tk : Int), ⟨nm.toArray⟩, (numV tn : Int), ⟨(s4.drop 1).toArray⟩⟩ : Mk)).toArray from stm35 (⟨o, (numV tk : Int), ⟨nm.toArray⟩, (numV tn : Int), ⟨#[]⟩⟩ : Mk) _)
                      have S43 : Zx.St w0 noM [blk b1 87 (mkf zMk).toArray, blk b2 87 (mkf (⟨o, (numV tk : Int), ⟨nm.toArray⟩, (numV tn : Int), ⟨(s4.drop 1).toArray⟩⟩ : Mk)).toArray, blk b6 41 (idf o).toArray] w41 := S42.cast (by kernel_rfl)
                      refine L_nil ?_
                      refine hK32 _ _ ?_
                      refine T_seq fun K33 hK33 => ?_
                      refine T_region ?_
                      refine L_y (y_ldW Tryz.underlying87 rfl sz87 rfl (S43.blk 1 rfl) (mk_whole _)) rfl ?_
                      refine L_o (o_call Tryz.func81 rfl rfl (rcheckM (mkOf (⟨o, numV tk, nm, numV tn, s4.drop 1⟩ : MkL)) w41) rfl rfl ?_)
                      rintro e44 w44 ⟨v44, rfl, l44, rfl⟩
                      refine ⟨_, rfl, ?_⟩
                      have S44 := S43.like l44
                      refine L_y (y_assign rfl) rfl ?_
                      refine L_nil ?_
                      refine hK33 _ _ ?_
                      refine T_seq fun K34 hK34 => ?_
                      refine T_seq fun K35 hK35 => ?_
                      refine T_region ?_
                      refine L_y (y_move rfl) rfl ?_
                      refine L_y (y_neq rfl rfl) rfl ?_
                      refine L_nil ?_
                      refine hK35 _ _ ?_
                      refine T_cond rfl (fun h106 => ?_) (fun h106 => ?_)
                      ·
                        refine T_seq fun K36 hK36 => ?_
                        refine T_region ?_
                        refine L_y (y_build rfl (show _ = some (mkf zMk).toArray by kernel_rfl)) rfl ?_
                        refine L_y (y_move rfl) rfl ?_
                        refine L_o (o_stW S44 0 rfl rfl rfl (by rw [mkf_sz]; exact sz87) (by first | (rw [mkf_sz]; done) | (rw [mkf_sz]; rfl)) (fun u hu => mkf_one _ u (by rw [List.toList_toArray] at hu; exact hu)) fun w45 S45 => ?_)
                        refine L_y (y_assign rfl) rfl ?_
                        refine L_nil ?_
                        refine hK36 _ _ ?_
                        refine T_ret ?_
                        repeat (first | with_reducible refine up_then ?_ | with_reducible refine up_in ?_)
                        refine retct rfl rfl rfl (S45.blk 0 rfl) Tryz.underlying87 rfl (by rw [mkf_sz]; exact sz87) ?_
                        have hgo := mo_some hg
                        have h0 : ¬ chkM (mkOf (⟨o, numV tk, nm, numV tn, s4.drop 1⟩ : MkL)) = 0 := fun e => h106 e
                        have hv : mval s = zML := by rw [hgo.2, if_neg h0]
                        rw [hv, hgo.1, zML_mk]
                        exact ⟨_, rfl, S45.like0, rfl⟩
                      ·
                        refine T_skip ?_
                        refine hK34 _ _ ?_
                        refine T_seq fun K37 hK37 => ?_
                        refine T_region ?_
                        refine L_y (y_ldW Tryz.underlying87 rfl sz87 rfl (S44.blk 1 rfl) (mk_whole _)) rfl ?_
                        refine L_o (o_stW S44 0 rfl rfl rfl (by rw [mkf_sz]; exact sz87) (by first | (rw [mkf_sz]; done) | (rw [mkf_sz]; rfl)) (fun u hu => mkf_one _ u (by rw [List.toList_toArray] at hu; exact hu)) fun w46 S46 => ?_)
                        refine L_y (y_assign rfl) rfl ?_
                        refine L_nil ?_
                        refine hK37 _ _ ?_
                        refine T_ret ?_
                        repeat (first | with_reducible refine up_then ?_ | with_reducible refine up_in ?_)
                        refine retct rfl rfl rfl (S46.blk 0 rfl) Tryz.underlying87 rfl (by rw [mkf_sz]; exact sz87) ?_
                        have hgo := mo_some hg
                        have h0 : chkM (mkOf (⟨o, numV tk, nm, numV tn, s4.drop 1⟩ : MkL)) = 0 := Classical.byContradiction fun e => h106 e
                        have hv : mval s = (⟨o, numV tk, nm, numV tn, s4.drop 1⟩ : MkL) := by rw [hgo.2, if_pos h0]
                        rw [hv, hgo.1, h0]
                        exact ⟨_, rfl, S46.like0, rfl⟩
end Go.Proofs.YtgaklngnfecdaaaGreat.Rev


/-
  The document: words, Check.
-/
namespace Go.Proofs.YtgaklngnfecdaaaGreat.Obj
open Go.RowKit Zk Zx
open Oid (idf idf_len)
open Tre (nmOk EV enf enf_len mdOk chkE)
open Rev (cutF cutF_some cutF_none)
set_option linter.unusedVariables false
set_option linter.unusedSimpArgs false

def wlist : List Value := [.string (wordS 1), .string (wordS 2), .string (wordS 3), .string (wordS 4)]
theorem wl_nat {k : Nat} (h : k < 4) : wlist[k]? = some (.string (wordS ((k + 1 : Nat) : Int))) := by
  have hk : k = 0 ∨ k = 1 ∨ k = 2 ∨ k = 3 := by omega
  rcases hk with rfl | rfl | rfl | rfl <;> rfl


set_option maxRecDepth 100000 in
theorem words  (w0 : World)  :
    Calls Tryz.prog 44 #[] w0 fun e w' => ∃ u, e = .returned u ∧ Like w0 w' ∧ ∃ A c, u = .slice A 4 c ∧ Rs w' 1 A 4 c wlist := by
  refine enter1 (env := []) [] Tryz.func44 rfl Tryz.ntmps44 rfl rfl ?_
  have S0 := St.start w0 noM
  refine T_seq fun K1 hK1 => ?_
  refine T_region ?_
  refine L_y (y_assign rfl) rfl ?_
  refine L_nil ?_
  refine hK1 _ _ ?_
  refine T_seq fun K2 hK2 => ?_
  refine T_region ?_
  refine L_o (o_bsl wlist te90 zz9 S0 rfl rfl rfl rfl rfl rfl rfl rfl fun b1 w1 S1 => ?_)
  refine L_y (y_assign rfl) rfl ?_
  refine L_nil ?_
  refine hK2 _ _ ?_
  refine T_ret ?_
  repeat (first | with_reducible refine up_then ?_ | with_reducible refine up_in ?_)
  refine ret1 rfl rfl ?_
  exact ⟨_, rfl, S1.like0, _, _, rfl, S1.row 0 rfl⟩


set_option maxRecDepth 100000 in
theorem rkind_ (s : ByteArray) (w0 : World)  :
    Calls Tryz.prog 20 #[.string s] w0 fun e w' => ∃ u, e = .returned u ∧ Like w0 w' ∧ u = .int .i64 (kindS s) := by
  refine enter1 (env := [(0, .string s)]) [.string s] Tryz.func20 rfl Tryz.ntmps20 rfl rfl ?_
  have S0 := St.start w0 noM
  refine T_seq fun K1 hK1 => ?_
  refine T_region ?_
  refine L_y (y_assign rfl) rfl ?_
  refine L_nil ?_
  refine hK1 _ _ ?_
  refine T_seq fun K2 hK2 => ?_
  refine T_seq fun K3 hK3 => ?_
  refine T_region ?_
  refine L_y (y_assign rfl) rfl ?_
  refine L_nil ?_
  refine hK3 _ _ ?_
  refine T_block ?_
  refine T_loop1 [(0, _)] (fun (k : Nat) => [(3, .int .i64 (k : Int))]) (fun (k : Nat) => 4 - k) (fun (k : Nat) (w : World) => (k ≤ 4 ∧ ∀ j : Nat, 1 ≤ j → j < k + 1 → wordS (j : Int) ≠ s) ∧ Zx.St w0 noM [] w) 0 (Sub.cons rfl (by first | rfl | exact congrArg (Value.int _) (by omega)) (Sub.nil _)) (Sub.cons rfl rfl (Sub.nil _)) ?_ ?_
  ·
    exact ⟨⟨by omega, fun j hj hk => by omega⟩, S0⟩
  ·
    intro k w1 hrel
    obtain ⟨⟨h5, hn⟩, S1⟩ := hrel
    refine T_seq fun K4 hK4 => ?_
    refine T_seq fun K5 hK5 => ?_
    refine T_region ?_
    refine L_y (y_move rfl) rfl ?_
    refine L_y (y_lss rfl rfl) rfl ?_
    refine L_nil ?_
    refine hK5 _ _ ?_
    refine T_cond rfl (fun h5 => ?_) (fun h5 => ?_)
    ·
      refine T_skip ?_
      refine hK4 _ _ ?_
      refine T_seq fun K6 hK6 => ?_
      refine T_block ?_
      refine T_seq fun K7 hK7 => ?_
      refine T_region ?_
      refine L_o (o_call Tryz.func44 rfl rfl (words w1) rfl rfl ?_)
      rintro e2 w2 ⟨v2, rfl, l2, A9, c9, rfl, F9⟩
      refine ⟨_, rfl, ?_⟩
      have S2 := S1.like l2
      refine L_y (y_move rfl) rfl ?_
      refine L_y (y_idx Tryz.underlying90 sz9 rfl rfl (F9) inferInstance (by omega)) rfl ?_
      refine L_y (y_ldr Tryz.underlying9 rfl rfl F9 (wl_nat (by omega))) rfl ?_
      refine L_y (y_move rfl) rfl ?_
      refine L_y (y_seql rfl rfl) rfl ?_
      refine L_nil ?_
      refine hK7 _ _ ?_
      refine T_cond rfl (fun h13 => ?_) (fun h13 => ?_)
      ·
        refine T_seq fun K8 hK8 => ?_
        refine T_region ?_
        refine L_y (y_move rfl) rfl ?_
        refine L_y (y_add rfl rfl (i64w (by omega))) rfl ?_
        refine L_y (y_assign rfl) rfl ?_
        refine L_nil ?_
        refine hK8 _ _ ?_
        refine T_ret ?_
        repeat (first | with_reducible refine up_then ?_ | with_reducible refine up_in ?_)
        refine ret1 rfl rfl ?_
        exact ⟨_, rfl, S2.like0, congrArg (Value.int _) (kindS_at (k := k + 1) (by omega) (by omega) hn h13).symm⟩
      ·
        refine T_skip ?_
        refine hK6 _ _ ?_
        refine T_region ?_
        refine L_y (y_move rfl) rfl ?_
        refine L_y (y_add rfl rfl (i64w (by omega))) rfl ?_
        refine L_y (y_assign rfl) rfl ?_
        refine L_nil ?_
        refine ⟨k + 1, by omega, ⟨⟨by omega, fun j hj hk => by rcases Nat.lt_or_ge j (k + 1) with q | q; exact hn j hj q; (have e : j = k + 1 := by omega); subst e; exact h13⟩, S2⟩, ?_⟩
        exact (Sub.cons rfl (by first | rfl | exact congrArg (Value.int _) (by omega)) (Sub.cons rfl rfl (Sub.nil _)))
    ·
      refine T_exit ?_
      refine hK2 _ _ ?_
      refine T_seq fun K9 hK9 => ?_
      refine T_region ?_
      refine L_y (y_assign rfl) rfl ?_
      refine L_nil ?_
      refine hK9 _ _ ?_
      refine T_ret ?_
      repeat (first | with_reducible refine up_then ?_ | with_reducible refine up_in ?_)
      refine ret1 rfl rfl ?_
      obtain rfl : k = 4 := by omega
      exact ⟨_, rfl, S1.like0, congrArg (Value.int _) (kindS_no hn).symm⟩


set_option maxRecDepth 100000 in
theorem rcheck_ (k : Int) (B : Option Addr) (m d : Nat) (b : List UInt8) (w0 : World) (hb : Rs w0 1 B m d (bL b)) :
    Calls Tryz.prog 16 #[.int .i64 k, .slice B m d] w0 fun e w' => ∃ u, e = .returned u ∧ Like w0 w' ∧ u = .int .i64 (objE k b) := by
  refine enter1 (env := [(0, .int .i64 k), (1, .slice B m d)]) [.int .i64 k, .slice B m d] Tryz.func16 rfl Tryz.ntmps16 rfl rfl ?_
  have hl := hb.lenb; have hcap := hb.cap; have hmax := hb.max
  have S0 := St.start w0 noM
  refine T_seq fun K1 hK1 => ?_
  refine T_region ?_
  refine L_y (y_assign rfl) rfl ?_
  refine L_nil ?_
  refine hK1 _ _ ?_
  refine T_seq fun K2 hK2 => ?_
  refine T_seq fun K3 hK3 => ?_
  refine T_region ?_
  refine L_y (y_move rfl) rfl ?_
  refine L_y (y_lss rfl rfl) rfl ?_
  refine L_y (y_move rfl) rfl ?_
  refine L_split 8 rfl (fun h8 => ?_) (fun h8 => ?_)
  ·
    refine L_gno rfl rfl rfl ?_
    refine L_gno rfl rfl rfl ?_
    refine L_y ((by first | exact y_pickT rfl rfl | exact y_pickF rfl rfl)) rfl ?_
    refine L_nil ?_
    refine hK3 _ _ ?_
    refine T_true rfl ?_
    refine T_seq fun K4 hK4 => ?_
    refine T_region ?_
    refine L_y (y_assign rfl) rfl ?_
    refine L_nil ?_
    refine hK4 _ _ ?_
    refine T_ret ?_
    repeat (first | with_reducible refine up_then ?_ | with_reducible refine up_in ?_)
    refine ret1 rfl rfl ?_
    have he : objE k b = 19 := by unfold objE; rw [if_pos (by omega)]
    exact ⟨_, rfl, S0.like0, by first | (rw [he]; done) | (rw [he]; rfl)⟩
  ·
    refine L_gyes rfl rfl ?_
    refine L_y (y_move rfl) rfl ?_
    refine L_gyes rfl rfl ?_
    refine L_y (y_gtr rfl rfl) rfl ?_
    refine L_y ((by first | exact y_pickT rfl rfl | exact y_pickF rfl rfl)) rfl ?_
    refine L_nil ?_
    refine hK3 _ _ ?_
    refine T_cond rfl (fun h11 => ?_) (fun h11 => ?_)
    ·
      refine T_seq fun K5 hK5 => ?_
      refine T_region ?_
      refine L_y (y_assign rfl) rfl ?_
      refine L_nil ?_
      refine hK5 _ _ ?_
      refine T_ret ?_
      repeat (first | with_reducible refine up_then ?_ | with_reducible refine up_in ?_)
      refine ret1 rfl rfl ?_
      have he : objE k b = 19 := by unfold objE; rw [if_pos (by omega)]
      exact ⟨_, rfl, S0.like0, by first | (rw [he]; done) | (rw [he]; rfl)⟩
    ·
      refine T_skip ?_
      refine hK2 _ _ ?_
      refine T_seq fun K6 hK6 => ?_
      refine T_seq fun K7 hK7 => ?_
      refine T_region ?_
      refine L_y (y_move rfl) rfl ?_
      refine L_y (y_len Tryz.underlying22 rfl) rfl ?_
      refine L_y (y_gtr rfl rfl) rfl ?_
      refine L_nil ?_
      refine hK7 _ _ ?_
      refine T_cond rfl (fun h14 => ?_) (fun h14 => ?_)
      ·
        refine T_seq fun K8 hK8 => ?_
        refine T_region ?_
        refine L_y (y_assign rfl) rfl ?_
        refine L_nil ?_
        refine hK8 _ _ ?_
        refine T_ret ?_
        repeat (first | with_reducible refine up_then ?_ | with_reducible refine up_in ?_)
        refine ret1 rfl rfl ?_
        have he : objE k b = 3 := by unfold objE; rw [if_neg (fun q => q (by omega)), if_pos (by omega)]
        exact ⟨_, rfl, S0.like0, by first | (rw [he]; done) | (rw [he]; rfl)⟩
      ·
        refine T_skip ?_
        refine hK6 _ _ ?_
        refine T_seq fun K9 hK9 => ?_
        refine T_region ?_
        refine L_y (y_assign rfl) rfl ?_
        refine L_nil ?_
        refine hK9 _ _ ?_
        refine T_seq fun K10 hK10 => ?_
        refine T_seq fun K11 hK11 => ?_
        refine T_region ?_
        refine L_y (y_move rfl) rfl ?_
        refine L_nil ?_
        refine hK11 _ _ ?_
        refine T_block ?_
        refine T_seq fun K12 hK12 => ?_
        refine T_region ?_
        refine L_y (y_eql rfl rfl) rfl ?_
        refine L_y (y_assign rfl) rfl ?_
        refine L_nil ?_
        refine hK12 _ _ ?_
        refine T_cond rfl (fun h16 => ?_) (fun h16 => ?_)
        ·
          refine T_region ?_
          refine L_y (y_move rfl) rfl ?_
          refine L_o (o_call Tryz.func41 rfl rfl (rget B m d b w0 (S0.rd hb) (by omega)) rfl rfl ?_)
          rintro e2 w2 ⟨v2, rfl, l2, A20, k20, c20, rfl⟩
          refine ⟨_, rfl, ?_⟩
          have S2 := S0.like l2
          refine L_y (y_move rfl) rfl ?_
          refine L_y (y_extract rfl rfl) rfl ?_
          refine L_y (y_extract rfl rfl) rfl ?_
          refine L_y (y_assign rfl) rfl ?_
          refine L_nil ?_
          refine hK10 _ _ ?_
          refine T_seq fun K13 hK13 => ?_
          refine T_region ?_
          refine L_y (y_move rfl) rfl ?_
          refine L_y (y_assign rfl) rfl ?_
          refine L_nil ?_
          refine hK13 _ _ ?_
          refine T_ret ?_
          repeat (first | with_reducible refine up_then ?_ | with_reducible refine up_in ?_)
          refine ret1 rfl rfl ?_
          have he : objE k b = treeE b := by unfold objE; rw [if_neg (fun q => q (by omega)), if_neg (by omega), if_pos h16]
          exact ⟨_, rfl, S2.like0, by first | (rw [he]; done) | (rw [he]; rfl)⟩
        ·
          refine T_seq fun K14 hK14 => ?_
          refine T_region ?_
          refine L_y (y_eql rfl rfl) rfl ?_
          refine L_y (y_assign rfl) rfl ?_
          refine L_nil ?_
          refine hK14 _ _ ?_
          refine T_cond rfl (fun h23 => ?_) (fun h23 => ?_)
          ·
            refine T_region ?_
            refine L_y (y_move rfl) rfl ?_
            refine L_o (o_call Tryz.func42 rfl rfl (Rev.rgetB B m d b w0 (S0.rd hb) (by omega)) rfl rfl ?_)
            rintro e3 w3 ⟨v3, rfl, l3, A33, c33, F33, rfl⟩
            refine ⟨_, rfl, ?_⟩
            have S3 := S0.like l3
            refine L_y (y_move rfl) rfl ?_
            refine L_y (y_extract rfl rfl) rfl ?_
            refine L_y (y_extract rfl rfl) rfl ?_
            refine L_y (y_assign rfl) rfl ?_
            refine L_nil ?_
            refine hK10 _ _ ?_
            refine T_seq fun K15 hK15 => ?_
            refine T_region ?_
            refine L_y (y_move rfl) rfl ?_
            refine L_y (y_assign rfl) rfl ?_
            refine L_nil ?_
            refine hK15 _ _ ?_
            refine T_ret ?_
            repeat (first | with_reducible refine up_then ?_ | with_reducible refine up_in ?_)
            refine ret1 rfl rfl ?_
            have he : objE k b = Rev.gcode b := by unfold objE; rw [if_neg (fun q => q (by omega)), if_neg (by omega), if_neg h16, if_pos h23]
            exact ⟨_, rfl, S3.like0, by first | (rw [he]; done) | (rw [he]; rfl)⟩
          ·
            refine T_seq fun K16 hK16 => ?_
            refine T_region ?_
            refine L_y (y_eql rfl rfl) rfl ?_
            refine L_y (y_assign rfl) rfl ?_
            refine L_nil ?_
            refine hK16 _ _ ?_
            refine T_cond rfl (fun h30 => ?_) (fun h30 => ?_)
            ·
              refine T_region ?_
              refine L_y (y_move rfl) rfl ?_
              refine L_o (o_call Tryz.func43 rfl rfl (Rev.rgetMB B m d b w0 (S0.rd hb) (by omega)) rfl rfl ?_)
              rintro e4 w4 ⟨v4, rfl, l4, rfl⟩
              refine ⟨_, rfl, ?_⟩
              have S4 := S0.like l4
              refine L_y (y_move rfl) rfl ?_
              refine L_y (y_extract rfl rfl) rfl ?_
              refine L_y (y_extract rfl rfl) rfl ?_
              refine L_y (y_assign rfl) rfl ?_
              refine L_nil ?_
              refine hK10 _ _ ?_
              refine T_seq fun K17 hK17 => ?_
              refine T_region ?_
              refine L_y (y_move rfl) rfl ?_
              refine L_y (y_assign rfl) rfl ?_
              refine L_nil ?_
              refine hK17 _ _ ?_
              refine T_ret ?_
              repeat (first | with_reducible refine up_then ?_ | with_reducible refine up_in ?_)
              refine ret1 rfl rfl ?_
              have he : objE k b = Rev.mcode b := by unfold objE; rw [if_neg (fun q => q (by omega)), if_neg (by omega), if_neg h16, if_neg h23, if_pos h30]
              exact ⟨_, rfl, S4.like0, by first | (rw [he]; done) | (rw [he]; rfl)⟩
            ·
              refine T_skip ?_
              refine hK10 _ _ ?_
              refine T_seq fun K18 hK18 => ?_
              refine T_region ?_
              refine L_y (y_move rfl) rfl ?_
              refine L_y (y_assign rfl) rfl ?_
              refine L_nil ?_
              refine hK18 _ _ ?_
              refine T_ret ?_
              repeat (first | with_reducible refine up_then ?_ | with_reducible refine up_in ?_)
              refine ret1 rfl rfl ?_
              have he : objE k b = 0 := by unfold objE; rw [if_neg (fun q => q (by omega)), if_neg (by omega), if_neg h16, if_neg h23, if_neg h30]
              exact ⟨_, rfl, S0.like0, by first | (rw [he]; done) | (rw [he]; rfl)⟩
end Go.Proofs.YtgaklngnfecdaaaGreat.Obj


/-
  The document: Bytes.
-/
namespace Go.Proofs.YtgaklngnfecdaaaGreat.Obj
open Go.RowKit Zk Zx
open Oid (idf idf_len)
open Tre (nmOk EV enf enf_len mdOk chkE)
open Rev (cutF cutF_some cutF_none)
set_option linter.unusedVariables false
set_option linter.unusedSimpArgs false

end Go.Proofs.YtgaklngnfecdaaaGreat.Obj


/-
  The law ObjectBytes.
-/
namespace Go.Proofs.YtgaklngnfecdaaaGreat.Obj
open Go.RowKit Zk Zx
open Oid (idf idf_len)
open Tre (nmOk EV enf enf_len mdOk chkE)
open Rev (cutF cutF_some cutF_none)
set_option linter.unusedVariables false
set_option linter.unusedSimpArgs false

end Go.Proofs.YtgaklngnfecdaaaGreat.Obj


/-
  The document: bytes as an object.
-/
namespace Go.Proofs.YtgaklngnfecdaaaGreat.Obj
open Go.RowKit Zk Zx
open Oid (idf idf_len)
open Tre (nmOk EV enf enf_len mdOk chkE)
open Rev (cutF cutF_some cutF_none)
set_option linter.unusedVariables false
set_option linter.unusedSimpArgs false

theorem char_in {c : UInt8} {t : List UInt8} {i : Nat} (hi : i < t.length) (hz : t[i]? = some c) (hn : c ∉ t.take i) : cutF c t = some (t.take i, t.drop (i + 1)) := by
  have e : t = t.take i ++ c :: t.drop (i + 1) := by
    conv => lhs; rw [← List.take_append_drop i t]
    rw [List.drop_eq_getElem_cons hi, (List.getElem?_eq_some_iff.1 hz).2]
  conv => lhs; rw [e]
  exact Rev.cutF_of hn
theorem char_succ {c : UInt8} {t : List UInt8} {i : Nat} {x : UInt8} (h : t[i]? = some x) (hx : x ≠ c) (hn : c ∉ t.take i) : c ∉ t.take (i + 1) := by
  rw [List.take_add_one, h]
  intro hm
  rcases List.mem_append.1 hm with h1 | h1
  · exact hn h1
  · simp at h1; exact hx h1.symm
theorem nz_none {b : List UInt8} {i : Nat} (hn : (0 : UInt8) ∉ b.take i) (hi : b.length ≤ i ∨ 20 ≤ i) : cutF 0 (b.take 20) = none := by
  refine Rev.cutF_no fun hm => hn ?_
  rcases hi with h | h
  · rw [List.take_of_length_le h]; exact List.mem_of_mem_take hm
  · have : (b.take i).take 20 = b.take 20 := by rw [List.take_take, Nat.min_eq_left h]
    rw [← this] at hm
    exact List.mem_of_mem_take hm
theorem z_some {b : List UInt8} {i : Nat} (hx : b[i]? = some 0) (h : i < 20) (hn : (0 : UInt8) ∉ b.take i) : cutF 0 (b.take 20) = some (b.take i, (b.take 20).drop (i + 1)) := by
  have hb := (List.getElem?_eq_some_iff.1 hx).1
  have e : (b.take 20).take i = b.take i := by rw [List.take_take, Nat.min_eq_left (by omega)]
  have h2 := char_in (c := 0) (t := b.take 20) (i := i) (by rw [List.length_take]; omega) (by rw [List.getElem?_take, if_pos h]; exact hx) (by rw [e]; exact hn)
  rwa [e] at h2
theorem u8n {x c : UInt8} (h : (x.toNat : Int) ≠ (c.toNat : Int)) : x ≠ c := fun e => h (by rw [e])
theorem u8e {x c : UInt8} (h : ¬ (x.toNat : Int) ≠ (c.toNat : Int)) : x = c := UInt8.toNat_inj.1 (by omega)


set_option maxRecDepth 100000 in
theorem rsplit0 (B : Option Addr) (m d : Nat) (b : List UInt8) (w0 : World) (hb : Rs w0 1 B m d (bL b)) (hm9 : m ≤ 90000) (hz : cutF 0 (b.take 20) = none) :
    Calls Tryz.prog 22 #[.slice B m d] w0 fun e w' => ∃ u, e = .returned u ∧ Like w0 w' ∧ ∃ A c, u = .tuple #[.int .i64 (splitC b).2.1, .slice A (splitC b).2.2.length c, .int .i64 (splitC b).1] ∧ w'.ownsRow w0.heap.size 5 1 (.slice A (splitC b).2.2.length c) (splitC b).2.2.length (bL (splitC b).2.2) := by
  refine enter1 (env := [(0, .slice B m d)]) [.slice B m d] Tryz.func22 rfl Tryz.ntmps22 rfl rfl ?_
  have hl := hb.lenb; have hcap := hb.cap; have hmax := hb.max
  have S0 := St.start w0 noM
  refine T_seq fun K1 hK1 => ?_
  refine T_region ?_
  refine L_y (y_assign rfl) rfl ?_
  refine L_y (y_assign rfl) rfl ?_
  refine L_y (y_assign rfl) rfl ?_
  refine L_nil ?_
  refine hK1 _ _ ?_
  refine T_seq fun K2 hK2 => ?_
  refine T_region ?_
  refine L_y (y_assign rfl) rfl ?_
  refine L_nil ?_
  refine hK2 _ _ ?_
  refine T_seq fun K3 hK3 => ?_
  refine T_block ?_
  refine T_loop1 [(0, _)] (fun (i : Nat) => [(5, .int .i64 (i : Int))]) (fun (i : Nat) => m - i) (fun (i : Nat) (w : World) => (i ≤ m ∧ i ≤ 20 ∧ (0 : UInt8) ∉ b.take i) ∧ Zx.St w0 noM [] w) 0 (Sub.cons rfl (by first | rfl | exact congrArg (Value.int _) (by omega)) (Sub.nil _)) (Sub.cons rfl rfl (Sub.nil _)) ?_ ?_
  ·
    exact ⟨⟨by omega, by omega, by simp⟩, S0⟩
  ·
    intro i w1 hrel
    obtain ⟨⟨him, hi20, hnz⟩, S1⟩ := hrel
    refine T_seq fun K4 hK4 => ?_
    refine T_seq fun K5 hK5 => ?_
    refine T_region ?_
    refine L_y (y_move rfl) rfl ?_
    refine L_y (y_move rfl) rfl ?_
    refine L_y (y_len Tryz.underlying22 rfl) rfl ?_
    refine L_y (y_lss rfl rfl) rfl ?_
    refine L_y (y_move rfl) rfl ?_
    refine L_split 15 rfl (fun h15 => ?_) (fun h15 => ?_)
    ·
      refine L_gyes rfl rfl ?_
      refine L_y (y_move rfl) rfl ?_
      refine L_gyes rfl rfl ?_
      refine L_y (y_lss rfl rfl) rfl ?_
      refine L_y ((by first | exact y_pickT rfl rfl | exact y_pickF rfl rfl)) rfl ?_
      refine L_y (y_move rfl) rfl ?_
      refine L_split 19 rfl (fun h19 => ?_) (fun h19 => ?_)
      ·
        obtain ⟨x, hx⟩ : ∃ x, b[i]? = some x := ⟨_, List.getElem?_eq_getElem (by omega)⟩
        have hx9 := x.toNat_lt
        refine L_gyes rfl rfl ?_
        refine L_y (y_move rfl) rfl ?_
        refine L_gyes rfl rfl ?_
        refine L_y (y_move rfl) rfl ?_
        refine L_gyes rfl rfl ?_
        refine L_y (y_idx Tryz.underlying22 sz5 rfl rfl (by first | exact S1.rd hb) inferInstance (by omega)) rfl ?_
        refine L_gyes rfl rfl ?_
        refine L_y (y_ldr Tryz.underlying5 rfl rfl (S1.rd hb) (bL_get _ _ _ hx)) rfl ?_
        refine L_gyes rfl rfl ?_
        refine L_y (y_neq rfl rfl) rfl ?_
        refine L_y ((by first | exact y_pickT rfl rfl | exact y_pickF rfl rfl)) rfl ?_
        refine L_nil ?_
        refine hK5 _ _ ?_
        refine T_cond rfl (fun h25 => ?_) (fun h25 => ?_)
        ·
          refine T_skip ?_
          refine hK4 _ _ ?_
          refine T_block ?_
          refine T_region ?_
          refine L_y (y_move rfl) rfl ?_
          refine L_y (y_add rfl rfl (i64w (by omega))) rfl ?_
          refine L_y (y_assign rfl) rfl ?_
          refine L_nil ?_
          refine ⟨i + 1, by omega, ⟨⟨by omega, by omega, char_succ hx (u8n (c := 0) h25) hnz⟩, S1⟩, ?_⟩
          exact (Sub.cons rfl (by first | rfl | exact congrArg (Value.int _) (by omega)) (Sub.cons rfl rfl (Sub.nil _)))
        ·
          (have hx0 := u8e (c := 0) h25; subst hx0; exact absurd (hz.symm.trans (z_some hx (by omega) hnz)) (by simp))
      ·
        refine L_gno rfl rfl rfl ?_
        refine L_gno rfl rfl rfl ?_
        refine L_gno rfl rfl rfl ?_
        refine L_gno rfl rfl rfl ?_
        refine L_gno rfl rfl rfl ?_
        refine L_y ((by first | exact y_pickT rfl rfl | exact y_pickF rfl rfl)) rfl ?_
        refine L_nil ?_
        refine hK5 _ _ ?_
        refine T_false rfl ?_
        refine T_exit ?_
        refine hK3 _ _ ?_
        refine T_seq fun K6 hK6 => ?_
        refine T_seq fun K7 hK7 => ?_
        refine T_region ?_
        refine L_y (y_move rfl) rfl ?_
        refine L_y (y_move rfl) rfl ?_
        refine L_y (y_len Tryz.underlying22 rfl) rfl ?_
        refine L_y (y_eql rfl rfl) rfl ?_
        refine L_y (y_move rfl) rfl ?_
        refine L_split 32 rfl (fun h32 => ?_) (fun h32 => ?_)
        ·
          refine L_gno rfl rfl rfl ?_
          refine L_gno rfl rfl rfl ?_
          refine L_y ((by first | exact y_pickT rfl rfl | exact y_pickF rfl rfl)) rfl ?_
          refine L_nil ?_
          refine hK7 _ _ ?_
          refine T_true rfl ?_
          refine T_seq fun K8 hK8 => ?_
          refine T_region ?_
          refine L_y (y_assign rfl) rfl ?_
          refine L_y (y_assign rfl) rfl ?_
          refine L_y (y_assign rfl) rfl ?_
          refine L_nil ?_
          refine hK8 _ _ ?_
          refine T_ret ?_
          repeat (first | with_reducible refine up_then ?_ | with_reducible refine up_in ?_)
          refine ret3 rfl rfl rfl rfl ?_
          have he : splitC b = (12, 0, []) := split_z hz
          exact ⟨_, rfl, S1.like0, none, 0, by rw [he]; rfl, by rw [he]; exact World.ownsRow_nil _ _ _ _⟩
        ·
          refine L_gyes rfl rfl ?_
          refine L_y (y_move rfl) rfl ?_
          refine L_gyes rfl rfl ?_
          refine L_y (y_eql rfl rfl) rfl ?_
          refine L_y ((by first | exact y_pickT rfl rfl | exact y_pickF rfl rfl)) rfl ?_
          refine L_nil ?_
          refine hK7 _ _ ?_
          refine T_cond rfl (fun h35 => ?_) (fun h35 => ?_)
          ·
            refine T_seq fun K9 hK9 => ?_
            refine T_region ?_
            refine L_y (y_assign rfl) rfl ?_
            refine L_y (y_assign rfl) rfl ?_
            refine L_y (y_assign rfl) rfl ?_
            refine L_nil ?_
            refine hK9 _ _ ?_
            refine T_ret ?_
            repeat (first | with_reducible refine up_then ?_ | with_reducible refine up_in ?_)
            refine ret3 rfl rfl rfl rfl ?_
            have he : splitC b = (12, 0, []) := split_z hz
            exact ⟨_, rfl, S1.like0, none, 0, by rw [he]; rfl, by rw [he]; exact World.ownsRow_nil _ _ _ _⟩
          ·
            omega
    ·
      refine L_gno rfl rfl rfl ?_
      refine L_gno rfl rfl rfl ?_
      refine L_y ((by first | exact y_pickT rfl rfl | exact y_pickF rfl rfl)) rfl ?_
      refine L_y (y_move rfl) rfl ?_
      refine L_gno rfl rfl rfl ?_
      refine L_gno rfl rfl rfl ?_
      refine L_gno rfl rfl rfl ?_
      refine L_gno rfl rfl rfl ?_
      refine L_gno rfl rfl rfl ?_
      refine L_y ((by first | exact y_pickT rfl rfl | exact y_pickF rfl rfl)) rfl ?_
      refine L_nil ?_
      refine hK5 _ _ ?_
      refine T_false rfl ?_
      refine T_exit ?_
      refine hK3 _ _ ?_
      refine T_seq fun K10 hK10 => ?_
      refine T_seq fun K11 hK11 => ?_
      refine T_region ?_
      refine L_y (y_move rfl) rfl ?_
      refine L_y (y_move rfl) rfl ?_
      refine L_y (y_len Tryz.underlying22 rfl) rfl ?_
      refine L_y (y_eql rfl rfl) rfl ?_
      refine L_y (y_move rfl) rfl ?_
      refine L_split 32 rfl (fun h32 => ?_) (fun h32 => ?_)
      ·
        refine L_gno rfl rfl rfl ?_
        refine L_gno rfl rfl rfl ?_
        refine L_y ((by first | exact y_pickT rfl rfl | exact y_pickF rfl rfl)) rfl ?_
        refine L_nil ?_
        refine hK11 _ _ ?_
        refine T_true rfl ?_
        refine T_seq fun K12 hK12 => ?_
        refine T_region ?_
        refine L_y (y_assign rfl) rfl ?_
        refine L_y (y_assign rfl) rfl ?_
        refine L_y (y_assign rfl) rfl ?_
        refine L_nil ?_
        refine hK12 _ _ ?_
        refine T_ret ?_
        repeat (first | with_reducible refine up_then ?_ | with_reducible refine up_in ?_)
        refine ret3 rfl rfl rfl rfl ?_
        have he : splitC b = (12, 0, []) := split_z hz
        exact ⟨_, rfl, S1.like0, none, 0, by rw [he]; rfl, by rw [he]; exact World.ownsRow_nil _ _ _ _⟩
      ·
        refine L_gyes rfl rfl ?_
        refine L_y (y_move rfl) rfl ?_
        refine L_gyes rfl rfl ?_
        refine L_y (y_eql rfl rfl) rfl ?_
        refine L_y ((by first | exact y_pickT rfl rfl | exact y_pickF rfl rfl)) rfl ?_
        refine L_nil ?_
        refine hK11 _ _ ?_
        refine T_cond rfl (fun h35 => ?_) (fun h35 => ?_)
        ·
          refine T_seq fun K13 hK13 => ?_
          refine T_region ?_
          refine L_y (y_assign rfl) rfl ?_
          refine L_y (y_assign rfl) rfl ?_
          refine L_y (y_assign rfl) rfl ?_
          refine L_nil ?_
          refine hK13 _ _ ?_
          refine T_ret ?_
          repeat (first | with_reducible refine up_then ?_ | with_reducible refine up_in ?_)
          refine ret3 rfl rfl rfl rfl ?_
          have he : splitC b = (12, 0, []) := split_z hz
          exact ⟨_, rfl, S1.like0, none, 0, by rw [he]; rfl, by rw [he]; exact World.ownsRow_nil _ _ _ _⟩
        ·
          omega


set_option maxRecDepth 100000 in
theorem rsplit1 (B : Option Addr) (m d : Nat) (b : List UInt8) (w0 : World) (hb : Rs w0 1 B m d (bL b)) (hm9 : m ≤ 90000) (p q : List UInt8) (hz : cutF 0 (b.take 20) = some (p, q)) (hs : cutF 32 p = none) :
    Calls Tryz.prog 22 #[.slice B m d] w0 fun e w' => ∃ u, e = .returned u ∧ Like w0 w' ∧ ∃ A c, u = .tuple #[.int .i64 (splitC b).2.1, .slice A (splitC b).2.2.length c, .int .i64 (splitC b).1] ∧ w'.ownsRow w0.heap.size 5 1 (.slice A (splitC b).2.2.length c) (splitC b).2.2.length (bL (splitC b).2.2) := by
  refine enter1 (env := [(0, .slice B m d)]) [.slice B m d] Tryz.func22 rfl Tryz.ntmps22 rfl rfl ?_
  have hl := hb.lenb; have hcap := hb.cap; have hmax := hb.max
  obtain ⟨htp, hpl, hp20⟩ := head_p hz
  have S0 := St.start w0 noM
  refine T_seq fun K1 hK1 => ?_
  refine T_region ?_
  refine L_y (y_assign rfl) rfl ?_
  refine L_y (y_assign rfl) rfl ?_
  refine L_y (y_assign rfl) rfl ?_
  refine L_nil ?_
  refine hK1 _ _ ?_
  refine T_seq fun K2 hK2 => ?_
  refine T_region ?_
  refine L_y (y_assign rfl) rfl ?_
  refine L_nil ?_
  refine hK2 _ _ ?_
  refine T_seq fun K3 hK3 => ?_
  refine T_block ?_
  refine T_loop1 [(0, _)] (fun (i : Nat) => [(5, .int .i64 (i : Int))]) (fun (i : Nat) => m - i) (fun (i : Nat) (w : World) => (i ≤ m ∧ i ≤ 20 ∧ (0 : UInt8) ∉ b.take i) ∧ Zx.St w0 noM [] w) 0 (Sub.cons rfl (by first | rfl | exact congrArg (Value.int _) (by omega)) (Sub.nil _)) (Sub.cons rfl rfl (Sub.nil _)) ?_ ?_
  ·
    exact ⟨⟨by omega, by omega, by simp⟩, S0⟩
  ·
    intro i w1 hrel
    obtain ⟨⟨him, hi20, hnz⟩, S1⟩ := hrel
    refine T_seq fun K4 hK4 => ?_
    refine T_seq fun K5 hK5 => ?_
    refine T_region ?_
    refine L_y (y_move rfl) rfl ?_
    refine L_y (y_move rfl) rfl ?_
    refine L_y (y_len Tryz.underlying22 rfl) rfl ?_
    refine L_y (y_lss rfl rfl) rfl ?_
    refine L_y (y_move rfl) rfl ?_
    refine L_split 15 rfl (fun h15 => ?_) (fun h15 => ?_)
    ·
      refine L_gyes rfl rfl ?_
      refine L_y (y_move rfl) rfl ?_
      refine L_gyes rfl rfl ?_
      refine L_y (y_lss rfl rfl) rfl ?_
      refine L_y ((by first | exact y_pickT rfl rfl | exact y_pickF rfl rfl)) rfl ?_
      refine L_y (y_move rfl) rfl ?_
      refine L_split 19 rfl (fun h19 => ?_) (fun h19 => ?_)
      ·
        obtain ⟨x, hx⟩ : ∃ x, b[i]? = some x := ⟨_, List.getElem?_eq_getElem (by omega)⟩
        have hx9 := x.toNat_lt
        refine L_gyes rfl rfl ?_
        refine L_y (y_move rfl) rfl ?_
        refine L_gyes rfl rfl ?_
        refine L_y (y_move rfl) rfl ?_
        refine L_gyes rfl rfl ?_
        refine L_y (y_idx Tryz.underlying22 sz5 rfl rfl (by first | exact S1.rd hb) inferInstance (by omega)) rfl ?_
        refine L_gyes rfl rfl ?_
        refine L_y (y_ldr Tryz.underlying5 rfl rfl (S1.rd hb) (bL_get _ _ _ hx)) rfl ?_
        refine L_gyes rfl rfl ?_
        refine L_y (y_neq rfl rfl) rfl ?_
        refine L_y ((by first | exact y_pickT rfl rfl | exact y_pickF rfl rfl)) rfl ?_
        refine L_nil ?_
        refine hK5 _ _ ?_
        refine T_cond rfl (fun h25 => ?_) (fun h25 => ?_)
        ·
          refine T_skip ?_
          refine hK4 _ _ ?_
          refine T_block ?_
          refine T_region ?_
          refine L_y (y_move rfl) rfl ?_
          refine L_y (y_add rfl rfl (i64w (by omega))) rfl ?_
          refine L_y (y_assign rfl) rfl ?_
          refine L_nil ?_
          refine ⟨i + 1, by omega, ⟨⟨by omega, by omega, char_succ hx (u8n (c := 0) h25) hnz⟩, S1⟩, ?_⟩
          exact (Sub.cons rfl (by first | rfl | exact congrArg (Value.int _) (by omega)) (Sub.cons rfl rfl (Sub.nil _)))
        ·
          obtain rfl := u8e (c := 0) h25
          have hz2 := hz.symm.trans (z_some hx (by omega) hnz)
          obtain rfl : i = p.length := by injection hz2 with q; injection q with q1 q2; rw [q1, List.length_take]; omega
          refine T_exit ?_
          refine hK3 _ _ ?_
          refine T_seq fun K6 hK6 => ?_
          refine T_seq fun K7 hK7 => ?_
          refine T_region ?_
          refine L_y (y_move rfl) rfl ?_
          refine L_y (y_move rfl) rfl ?_
          refine L_y (y_len Tryz.underlying22 rfl) rfl ?_
          refine L_y (y_eql rfl rfl) rfl ?_
          refine L_y (y_move rfl) rfl ?_
          refine L_split 32 rfl (fun h32 => ?_) (fun h32 => ?_)
          ·
            omega
          ·
            refine L_gyes rfl rfl ?_
            refine L_y (y_move rfl) rfl ?_
            refine L_gyes rfl rfl ?_
            refine L_y (y_eql rfl rfl) rfl ?_
            refine L_y ((by first | exact y_pickT rfl rfl | exact y_pickF rfl rfl)) rfl ?_
            refine L_nil ?_
            refine hK7 _ _ ?_
            refine T_cond rfl (fun h35 => ?_) (fun h35 => ?_)
            ·
              omega
            ·
              refine T_skip ?_
              refine hK6 _ _ ?_
              refine T_seq fun K8 hK8 => ?_
              refine T_region ?_
              refine L_y (y_assign rfl) rfl ?_
              refine L_nil ?_
              refine hK8 _ _ ?_
              refine T_seq fun K9 hK9 => ?_
              refine T_block ?_
              refine T_loop1 [(0, _), (5, _)] (fun (j : Nat) => [(6, .int .i64 (j : Int))]) (fun (j : Nat) => p.length - j) (fun (j : Nat) (w : World) => (j ≤ p.length ∧ (32 : UInt8) ∉ p.take j) ∧ Zx.St w0 noM [] w) 0 (Sub.cons rfl (by first | rfl | exact congrArg (Value.int _) (by omega)) (Sub.nil _)) (Sub.cons rfl rfl (Sub.cons rfl rfl (Sub.nil _))) ?_ ?_
              ·
                exact ⟨⟨by omega, by simp⟩, S1⟩
              ·
                intro j w5 hrel
                obtain ⟨⟨hjp, hns⟩, S5⟩ := hrel
                refine T_seq fun K10 hK10 => ?_
                refine T_seq fun K11 hK11 => ?_
                refine T_region ?_
                refine L_y (y_move rfl) rfl ?_
                refine L_y (y_move rfl) rfl ?_
                refine L_y (y_lss rfl rfl) rfl ?_
                refine L_y (y_move rfl) rfl ?_
                refine L_split 39 rfl (fun h39 => ?_) (fun h39 => ?_)
                ·
                  obtain ⟨y, hy⟩ : ∃ y, p[j]? = some y := ⟨_, List.getElem?_eq_getElem (by omega)⟩
                  have hby : b[j]? = some y := by rw [← htp, List.getElem?_take, if_pos (by omega)] at hy; exact hy
                  have hy9 := y.toNat_lt
                  refine L_gyes rfl rfl ?_
                  refine L_y (y_move rfl) rfl ?_
                  refine L_gyes rfl rfl ?_
                  refine L_y (y_move rfl) rfl ?_
                  refine L_gyes rfl rfl ?_
                  refine L_y (y_idx Tryz.underlying22 sz5 rfl rfl (by first | exact S5.rd hb) inferInstance (by omega)) rfl ?_
                  refine L_gyes rfl rfl ?_
                  refine L_y (y_ldr Tryz.underlying5 rfl rfl (S5.rd hb) (bL_get _ _ _ hby)) rfl ?_
                  refine L_gyes rfl rfl ?_
                  refine L_y (y_neq rfl rfl) rfl ?_
                  refine L_y ((by first | exact y_pickT rfl rfl | exact y_pickF rfl rfl)) rfl ?_
                  refine L_nil ?_
                  refine hK11 _ _ ?_
                  refine T_cond rfl (fun h45 => ?_) (fun h45 => ?_)
                  ·
                    refine T_skip ?_
                    refine hK10 _ _ ?_
                    refine T_block ?_
                    refine T_region ?_
                    refine L_y (y_move rfl) rfl ?_
                    refine L_y (y_add rfl rfl (i64w (by omega))) rfl ?_
                    refine L_y (y_assign rfl) rfl ?_
                    refine L_nil ?_
                    refine ⟨j + 1, by omega, ⟨⟨by omega, char_succ hy (u8n (c := 32) h45) hns⟩, S5⟩, ?_⟩
                    exact (Sub.cons rfl (by first | rfl | exact congrArg (Value.int _) (by omega)) (Sub.cons rfl rfl (Sub.cons rfl rfl (Sub.nil _))))
                  ·
                    (have hy0 := u8e (c := 32) h45; subst hy0; exact absurd (hs.symm.trans (char_in (by omega) hy hns)) (by simp))
                ·
                  refine L_gno rfl rfl rfl ?_
                  refine L_gno rfl rfl rfl ?_
                  refine L_gno rfl rfl rfl ?_
                  refine L_gno rfl rfl rfl ?_
                  refine L_gno rfl rfl rfl ?_
                  refine L_y ((by first | exact y_pickT rfl rfl | exact y_pickF rfl rfl)) rfl ?_
                  refine L_nil ?_
                  refine hK11 _ _ ?_
                  refine T_false rfl ?_
                  refine T_exit ?_
                  refine hK9 _ _ ?_
                  refine T_seq fun K12 hK12 => ?_
                  refine T_seq fun K13 hK13 => ?_
                  refine T_region ?_
                  refine L_y (y_move rfl) rfl ?_
                  refine L_y (y_move rfl) rfl ?_
                  refine L_y (y_eql rfl rfl) rfl ?_
                  refine L_nil ?_
                  refine hK13 _ _ ?_
                  refine T_cond rfl (fun h50 => ?_) (fun h50 => ?_)
                  ·
                    refine T_seq fun K14 hK14 => ?_
                    refine T_region ?_
                    refine L_y (y_assign rfl) rfl ?_
                    refine L_y (y_assign rfl) rfl ?_
                    refine L_y (y_assign rfl) rfl ?_
                    refine L_nil ?_
                    refine hK14 _ _ ?_
                    refine T_ret ?_
                    repeat (first | with_reducible refine up_then ?_ | with_reducible refine up_in ?_)
                    refine ret3 rfl rfl rfl rfl ?_
                    have he : splitC b = (12, 0, []) := split_s hz hs
                    exact ⟨_, rfl, S5.like0, none, 0, by rw [he]; rfl, by rw [he]; exact World.ownsRow_nil _ _ _ _⟩
                  ·
                    omega
      ·
        exact absurd ((nz_none hnz (by omega)).symm.trans hz) (by simp)
    ·
      exact absurd ((nz_none hnz (by omega)).symm.trans hz) (by simp)


set_option maxRecDepth 100000 in
theorem rsplit2 (B : Option Addr) (m d : Nat) (b : List UInt8) (w0 : World) (hb : Rs w0 1 B m d (bL b)) (hm9 : m ≤ 90000) (p q : List UInt8) (hz : cutF 0 (b.take 20) = some (p, q)) (wd dg : List UInt8) (hs : cutF 32 p = some (wd, dg)) (hk : Rev.numOk dg = false) :
    Calls Tryz.prog 22 #[.slice B m d] w0 fun e w' => ∃ u, e = .returned u ∧ Like w0 w' ∧ ∃ A c, u = .tuple #[.int .i64 (splitC b).2.1, .slice A (splitC b).2.2.length c, .int .i64 (splitC b).1] ∧ w'.ownsRow w0.heap.size 5 1 (.slice A (splitC b).2.2.length c) (splitC b).2.2.length (bL (splitC b).2.2) := by
  refine enter1 (env := [(0, .slice B m d)]) [.slice B m d] Tryz.func22 rfl Tryz.ntmps22 rfl rfl ?_
  have hl := hb.lenb; have hcap := hb.cap; have hmax := hb.max
  obtain ⟨htp, hpl, hp20⟩ := head_p hz
  have S0 := St.start w0 noM
  refine T_seq fun K1 hK1 => ?_
  refine T_region ?_
  refine L_y (y_assign rfl) rfl ?_
  refine L_y (y_assign rfl) rfl ?_
  refine L_y (y_assign rfl) rfl ?_
  refine L_nil ?_
  refine hK1 _ _ ?_
  refine T_seq fun K2 hK2 => ?_
  refine T_region ?_
  refine L_y (y_assign rfl) rfl ?_
  refine L_nil ?_
  refine hK2 _ _ ?_
  refine T_seq fun K3 hK3 => ?_
  refine T_block ?_
  refine T_loop1 [(0, _)] (fun (i : Nat) => [(5, .int .i64 (i : Int))]) (fun (i : Nat) => m - i) (fun (i : Nat) (w : World) => (i ≤ m ∧ i ≤ 20 ∧ (0 : UInt8) ∉ b.take i) ∧ Zx.St w0 noM [] w) 0 (Sub.cons rfl (by first | rfl | exact congrArg (Value.int _) (by omega)) (Sub.nil _)) (Sub.cons rfl rfl (Sub.nil _)) ?_ ?_
  ·
    exact ⟨⟨by omega, by omega, by simp⟩, S0⟩
  ·
    intro i w1 hrel
    obtain ⟨⟨him, hi20, hnz⟩, S1⟩ := hrel
    refine T_seq fun K4 hK4 => ?_
    refine T_seq fun K5 hK5 => ?_
    refine T_region ?_
    refine L_y (y_move rfl) rfl ?_
    refine L_y (y_move rfl) rfl ?_
    refine L_y (y_len Tryz.underlying22 rfl) rfl ?_
    refine L_y (y_lss rfl rfl) rfl ?_
    refine L_y (y_move rfl) rfl ?_
    refine L_split 15 rfl (fun h15 => ?_) (fun h15 => ?_)
    ·
      refine L_gyes rfl rfl ?_
      refine L_y (y_move rfl) rfl ?_
      refine L_gyes rfl rfl ?_
      refine L_y (y_lss rfl rfl) rfl ?_
      refine L_y ((by first | exact y_pickT rfl rfl | exact y_pickF rfl rfl)) rfl ?_
      refine L_y (y_move rfl) rfl ?_
      refine L_split 19 rfl (fun h19 => ?_) (fun h19 => ?_)
      ·
        obtain ⟨x, hx⟩ : ∃ x, b[i]? = some x := ⟨_, List.getElem?_eq_getElem (by omega)⟩
        have hx9 := x.toNat_lt
        refine L_gyes rfl rfl ?_
        refine L_y (y_move rfl) rfl ?_
        refine L_gyes rfl rfl ?_
        refine L_y (y_move rfl) rfl ?_
        refine L_gyes rfl rfl ?_
        refine L_y (y_idx Tryz.underlying22 sz5 rfl rfl (by first | exact S1.rd hb) inferInstance (by omega)) rfl ?_
        refine L_gyes rfl rfl ?_
        refine L_y (y_ldr Tryz.underlying5 rfl rfl (S1.rd hb) (bL_get _ _ _ hx)) rfl ?_
        refine L_gyes rfl rfl ?_
        refine L_y (y_neq rfl rfl) rfl ?_
        refine L_y ((by first | exact y_pickT rfl rfl | exact y_pickF rfl rfl)) rfl ?_
        refine L_nil ?_
        refine hK5 _ _ ?_
        refine T_cond rfl (fun h25 => ?_) (fun h25 => ?_)
        ·
          refine T_skip ?_
          refine hK4 _ _ ?_
          refine T_block ?_
          refine T_region ?_
          refine L_y (y_move rfl) rfl ?_
          refine L_y (y_add rfl rfl (i64w (by omega))) rfl ?_
          refine L_y (y_assign rfl) rfl ?_
          refine L_nil ?_
          refine ⟨i + 1, by omega, ⟨⟨by omega, by omega, char_succ hx (u8n (c := 0) h25) hnz⟩, S1⟩, ?_⟩
          exact (Sub.cons rfl (by first | rfl | exact congrArg (Value.int _) (by omega)) (Sub.cons rfl rfl (Sub.nil _)))
        ·
          obtain rfl := u8e (c := 0) h25
          have hz2 := hz.symm.trans (z_some hx (by omega) hnz)
          obtain rfl : i = p.length := by injection hz2 with q; injection q with q1 q2; rw [q1, List.length_take]; omega
          refine T_exit ?_
          refine hK3 _ _ ?_
          refine T_seq fun K6 hK6 => ?_
          refine T_seq fun K7 hK7 => ?_
          refine T_region ?_
          refine L_y (y_move rfl) rfl ?_
          refine L_y (y_move rfl) rfl ?_
          refine L_y (y_len Tryz.underlying22 rfl) rfl ?_
          refine L_y (y_eql rfl rfl) rfl ?_
          refine L_y (y_move rfl) rfl ?_
          refine L_split 32 rfl (fun h32 => ?_) (fun h32 => ?_)
          ·
            omega
          ·
            refine L_gyes rfl rfl ?_
            refine L_y (y_move rfl) rfl ?_
            refine L_gyes rfl rfl ?_
            refine L_y (y_eql rfl rfl) rfl ?_
            refine L_y ((by first | exact y_pickT rfl rfl | exact y_pickF rfl rfl)) rfl ?_
            refine L_nil ?_
            refine hK7 _ _ ?_
            refine T_cond rfl (fun h35 => ?_) (fun h35 => ?_)
            ·
              omega
            ·
              refine T_skip ?_
              refine hK6 _ _ ?_
              refine T_seq fun K8 hK8 => ?_
              refine T_region ?_
              refine L_y (y_assign rfl) rfl ?_
              refine L_nil ?_
              refine hK8 _ _ ?_
              refine T_seq fun K9 hK9 => ?_
              refine T_block ?_
              refine T_loop1 [(0, _), (5, _)] (fun (j : Nat) => [(6, .int .i64 (j : Int))]) (fun (j : Nat) => p.length - j) (fun (j : Nat) (w : World) => (j ≤ p.length ∧ (32 : UInt8) ∉ p.take j) ∧ Zx.St w0 noM [] w) 0 (Sub.cons rfl (by first | rfl | exact congrArg (Value.int _) (by omega)) (Sub.nil _)) (Sub.cons rfl rfl (Sub.cons rfl rfl (Sub.nil _))) ?_ ?_
              ·
                exact ⟨⟨by omega, by simp⟩, S1⟩
              ·
                intro j w5 hrel
                obtain ⟨⟨hjp, hns⟩, S5⟩ := hrel
                refine T_seq fun K10 hK10 => ?_
                refine T_seq fun K11 hK11 => ?_
                refine T_region ?_
                refine L_y (y_move rfl) rfl ?_
                refine L_y (y_move rfl) rfl ?_
                refine L_y (y_lss rfl rfl) rfl ?_
                refine L_y (y_move rfl) rfl ?_
                refine L_split 39 rfl (fun h39 => ?_) (fun h39 => ?_)
                ·
                  obtain ⟨y, hy⟩ : ∃ y, p[j]? = some y := ⟨_, List.getElem?_eq_getElem (by omega)⟩
                  have hby : b[j]? = some y := by rw [← htp, List.getElem?_take, if_pos (by omega)] at hy; exact hy
                  have hy9 := y.toNat_lt
                  refine L_gyes rfl rfl ?_
                  refine L_y (y_move rfl) rfl ?_
                  refine L_gyes rfl rfl ?_
                  refine L_y (y_move rfl) rfl ?_
                  refine L_gyes rfl rfl ?_
                  refine L_y (y_idx Tryz.underlying22 sz5 rfl rfl (by first | exact S5.rd hb) inferInstance (by omega)) rfl ?_
                  refine L_gyes rfl rfl ?_
                  refine L_y (y_ldr Tryz.underlying5 rfl rfl (S5.rd hb) (bL_get _ _ _ hby)) rfl ?_
                  refine L_gyes rfl rfl ?_
                  refine L_y (y_neq rfl rfl) rfl ?_
                  refine L_y ((by first | exact y_pickT rfl rfl | exact y_pickF rfl rfl)) rfl ?_
                  refine L_nil ?_
                  refine hK11 _ _ ?_
                  refine T_cond rfl (fun h45 => ?_) (fun h45 => ?_)
                  ·
                    refine T_skip ?_
                    refine hK10 _ _ ?_
                    refine T_block ?_
                    refine T_region ?_
                    refine L_y (y_move rfl) rfl ?_
                    refine L_y (y_add rfl rfl (i64w (by omega))) rfl ?_
                    refine L_y (y_assign rfl) rfl ?_
                    refine L_nil ?_
                    refine ⟨j + 1, by omega, ⟨⟨by omega, char_succ hy (u8n (c := 32) h45) hns⟩, S5⟩, ?_⟩
                    exact (Sub.cons rfl (by first | rfl | exact congrArg (Value.int _) (by omega)) (Sub.cons rfl rfl (Sub.cons rfl rfl (Sub.nil _))))
                  ·
                    obtain rfl := u8e (c := 32) h45
                    have hs2 := hs.symm.trans (char_in (by omega) hy hns)
                    obtain ⟨hw1, hg1⟩ : wd = p.take j ∧ dg = p.drop (j + 1) := by injection hs2 with q; injection q with q1 q2; exact ⟨q1, q2⟩
                    have hbw := hb.cutb (l := 0) (u := j) (by omega) (by omega)
                    rw [show (b.drop 0).take (j - 0) = wd by rw [List.drop_zero, Nat.sub_zero, hw1, ← htp, List.take_take, Nat.min_eq_left (by omega)]] at hbw
                    have hbg := hb.cutb (l := j + 1) (u := p.length) (by omega) (by omega)
                    rw [show (b.drop (j + 1)).take (p.length - (j + 1)) = dg by rw [hg1]; conv => (rhs; rw [← htp]); rw [List.drop_take]] at hbg
                    refine T_exit ?_
                    refine hK9 _ _ ?_
                    refine T_seq fun K12 hK12 => ?_
                    refine T_seq fun K13 hK13 => ?_
                    refine T_region ?_
                    refine L_y (y_move rfl) rfl ?_
                    refine L_y (y_move rfl) rfl ?_
                    refine L_y (y_eql rfl rfl) rfl ?_
                    refine L_nil ?_
                    refine hK13 _ _ ?_
                    refine T_cond rfl (fun h50 => ?_) (fun h50 => ?_)
                    ·
                      omega
                    ·
                      refine T_skip ?_
                      refine hK12 _ _ ?_
                      refine T_seq fun K14 hK14 => ?_
                      refine T_region ?_
                      refine L_y (y_move rfl) rfl ?_
                      refine L_y (y_move rfl) rfl ?_
                      refine L_y (y_sliceH Tryz.underlying22 sz5 rfl rfl inferInstance (by omega)) rfl ?_
                      refine L_y (y_bstr Tryz.underlying22 Tryz.underlying5 Tryz.underlying9 rfl (S5.rd hbw)) rfl ?_
                      refine L_o (o_call Tryz.func20 rfl rfl (rkind_ ⟨wd.toArray⟩ w5) rfl rfl ?_)
                      rintro e7 w7 ⟨v7, rfl, l7, rfl⟩
                      refine ⟨_, rfl, ?_⟩
                      have S7 := S5.like l7
                      refine L_y (y_assign rfl) rfl ?_
                      refine L_nil ?_
                      refine hK14 _ _ ?_
                      refine T_seq fun K15 hK15 => ?_
                      refine T_region ?_
                      refine L_y (y_move rfl) rfl ?_
                      refine L_y (y_move rfl) rfl ?_
                      refine L_y (y_add rfl rfl (i64w (by omega))) rfl ?_
                      refine L_y (y_move rfl) rfl ?_
                      refine L_y (y_slice Tryz.underlying22 sz5 rfl rfl rfl inferInstance (Nt.mk rfl : Nt _ (p.length)) (by omega) (by omega)) rfl ?_
                      refine L_y (y_bstr Tryz.underlying22 Tryz.underlying5 Tryz.underlying9 rfl (S7.rd hbg)) rfl ?_
                      refine L_o (o_call Tryz.func49 rfl rfl (Rev.rnumber ⟨dg.toArray⟩ w7) rfl rfl ?_)
                      rintro e8 w8 ⟨v8, rfl, l8, hu8⟩
                      refine ⟨_, rfl, ?_⟩
                      have S8 := S7.like l8
                      rw [show Rev.numR _ = _ from numR_no hk] at hu8
                      subst hu8
                      refine L_y (y_move rfl) rfl ?_
                      refine L_y (y_extract rfl rfl) rfl ?_
                      refine L_y (y_extract rfl rfl) rfl ?_
                      refine L_y (y_assign rfl) rfl ?_
                      refine L_y (y_assign rfl) rfl ?_
                      refine L_nil ?_
                      refine hK15 _ _ ?_
                      refine T_seq fun K16 hK16 => ?_
                      refine T_seq fun K17 hK17 => ?_
                      refine T_region ?_
                      refine L_y (y_move rfl) rfl ?_
                      refine L_y (y_eql rfl rfl) rfl ?_
                      refine L_y (y_move rfl) rfl ?_
                      refine L_split 68 rfl (fun h68 => ?_) (fun h68 => ?_)
                      ·
                        refine L_gno rfl rfl rfl ?_
                        refine L_gno rfl rfl rfl ?_
                        refine L_y ((by first | exact y_pickT rfl rfl | exact y_pickF rfl rfl)) rfl ?_
                        refine L_nil ?_
                        refine hK17 _ _ ?_
                        refine T_true rfl ?_
                        refine T_seq fun K18 hK18 => ?_
                        refine T_region ?_
                        refine L_y (y_assign rfl) rfl ?_
                        refine L_y (y_assign rfl) rfl ?_
                        refine L_y (y_assign rfl) rfl ?_
                        refine L_nil ?_
                        refine hK18 _ _ ?_
                        refine T_ret ?_
                        repeat (first | with_reducible refine up_then ?_ | with_reducible refine up_in ?_)
                        refine ret3 rfl rfl rfl rfl ?_
                        have he : splitC b = (12, 0, []) := by rw [split_of hz hs]; rw [if_pos h68]
                        exact ⟨_, rfl, S8.like0, none, 0, by rw [he]; rfl, by rw [he]; exact World.ownsRow_nil _ _ _ _⟩
                      ·
                        have hd3 : (b.drop (p.length + 1)).length = m - (p.length + 1) := by rw [List.length_drop, hl]
                        refine L_gyes rfl rfl ?_
                        refine L_y (y_move rfl) rfl ?_
                        refine L_gyes rfl rfl ?_
                        refine L_y (y_neq rfl rfl) rfl ?_
                        refine L_y ((by first | exact y_pickT rfl rfl | exact y_pickF rfl rfl)) rfl ?_
                        refine L_nil ?_
                        refine hK17 _ _ ?_
                        refine T_cond rfl (fun h71 => ?_) (fun h71 => ?_)
                        ·
                          refine T_seq fun K19 hK19 => ?_
                          refine T_region ?_
                          refine L_y (y_assign rfl) rfl ?_
                          refine L_y (y_assign rfl) rfl ?_
                          refine L_y (y_assign rfl) rfl ?_
                          refine L_nil ?_
                          refine hK19 _ _ ?_
                          refine T_ret ?_
                          repeat (first | with_reducible refine up_then ?_ | with_reducible refine up_in ?_)
                          refine ret3 rfl rfl rfl rfl ?_
                          have he : splitC b = (12, 0, []) := by rw [split_of hz hs]; rw [if_neg h68, if_pos hk]
                          exact ⟨_, rfl, S8.like0, none, 0, by rw [he]; rfl, by rw [he]; exact World.ownsRow_nil _ _ _ _⟩
                        ·
                          exact absurd (by decide) h71
                ·
                  exact absurd ((Rev.cutF_no (by rwa [List.take_of_length_le (by omega)] at hns)).symm.trans hs) (by simp)
      ·
        exact absurd ((nz_none hnz (by omega)).symm.trans hz) (by simp)
    ·
      exact absurd ((nz_none hnz (by omega)).symm.trans hz) (by simp)


set_option maxRecDepth 100000 in
theorem rsplit3 (B : Option Addr) (m d : Nat) (b : List UInt8) (w0 : World) (hb : Rs w0 1 B m d (bL b)) (hm9 : m ≤ 90000) (p q : List UInt8) (hz : cutF 0 (b.take 20) = some (p, q)) (wd dg : List UInt8) (hs : cutF 32 p = some (wd, dg)) (hk : Rev.numOk dg = true) :
    Calls Tryz.prog 22 #[.slice B m d] w0 fun e w' => ∃ u, e = .returned u ∧ Like w0 w' ∧ ∃ A c, u = .tuple #[.int .i64 (splitC b).2.1, .slice A (splitC b).2.2.length c, .int .i64 (splitC b).1] ∧ w'.ownsRow w0.heap.size 5 1 (.slice A (splitC b).2.2.length c) (splitC b).2.2.length (bL (splitC b).2.2) := by
  refine enter1 (env := [(0, .slice B m d)]) [.slice B m d] Tryz.func22 rfl Tryz.ntmps22 rfl rfl ?_
  have hl := hb.lenb; have hcap := hb.cap; have hmax := hb.max
  obtain ⟨htp, hpl, hp20⟩ := head_p hz
  have S0 := St.start w0 noM
  refine T_seq fun K1 hK1 => ?_
  refine T_region ?_
  refine L_y (y_assign rfl) rfl ?_
  refine L_y (y_assign rfl) rfl ?_
  refine L_y (y_assign rfl) rfl ?_
  refine L_nil ?_
  refine hK1 _ _ ?_
  refine T_seq fun K2 hK2 => ?_
  refine T_region ?_
  refine L_y (y_assign rfl) rfl ?_
  refine L_nil ?_
  refine hK2 _ _ ?_
  refine T_seq fun K3 hK3 => ?_
  refine T_block ?_
  refine T_loop1 [(0, _)] (fun (i : Nat) => [(5, .int .i64 (i : Int))]) (fun (i : Nat) => m - i) (fun (i : Nat) (w : World) => (i ≤ m ∧ i ≤ 20 ∧ (0 : UInt8) ∉ b.take i) ∧ Zx.St w0 noM [] w) 0 (Sub.cons rfl (by first | rfl | exact congrArg (Value.int _) (by omega)) (Sub.nil _)) (Sub.cons rfl rfl (Sub.nil _)) ?_ ?_
  ·
    exact ⟨⟨by omega, by omega, by simp⟩, S0⟩
  ·
    intro i w1 hrel
    obtain ⟨⟨him, hi20, hnz⟩, S1⟩ := hrel
    refine T_seq fun K4 hK4 => ?_
    refine T_seq fun K5 hK5 => ?_
    refine T_region ?_
    refine L_y (y_move rfl) rfl ?_
    refine L_y (y_move rfl) rfl ?_
    refine L_y (y_len Tryz.underlying22 rfl) rfl ?_
    refine L_y (y_lss rfl rfl) rfl ?_
    refine L_y (y_move rfl) rfl ?_
    refine L_split 15 rfl (fun h15 => ?_) (fun h15 => ?_)
    ·
      refine L_gyes rfl rfl ?_
      refine L_y (y_move rfl) rfl ?_
      refine L_gyes rfl rfl ?_
      refine L_y (y_lss rfl rfl) rfl ?_
      refine L_y ((by first | exact y_pickT rfl rfl | exact y_pickF rfl rfl)) rfl ?_
      refine L_y (y_move rfl) rfl ?_
      refine L_split 19 rfl (fun h19 => ?_) (fun h19 => ?_)
      ·
        obtain ⟨x, hx⟩ : ∃ x, b[i]? = some x := ⟨_, List.getElem?_eq_getElem (by omega)⟩
        have hx9 := x.toNat_lt
        refine L_gyes rfl rfl ?_
        refine L_y (y_move rfl) rfl ?_
        refine L_gyes rfl rfl ?_
        refine L_y (y_move rfl) rfl ?_
        refine L_gyes rfl rfl ?_
        refine L_y (y_idx Tryz.underlying22 sz5 rfl rfl (by first | exact S1.rd hb) inferInstance (by omega)) rfl ?_
        refine L_gyes rfl rfl ?_
        refine L_y (y_ldr Tryz.underlying5 rfl rfl (S1.rd hb) (bL_get _ _ _ hx)) rfl ?_
        refine L_gyes rfl rfl ?_
        refine L_y (y_neq rfl rfl) rfl ?_
        refine L_y ((by first | exact y_pickT rfl rfl | exact y_pickF rfl rfl)) rfl ?_
        refine L_nil ?_
        refine hK5 _ _ ?_
        refine T_cond rfl (fun h25 => ?_) (fun h25 => ?_)
        ·
          refine T_skip ?_
          refine hK4 _ _ ?_
          refine T_block ?_
          refine T_region ?_
          refine L_y (y_move rfl) rfl ?_
          refine L_y (y_add rfl rfl (i64w (by omega))) rfl ?_
          refine L_y (y_assign rfl) rfl ?_
          refine L_nil ?_
          refine ⟨i + 1, by omega, ⟨⟨by omega, by omega, char_succ hx (u8n (c := 0) h25) hnz⟩, S1⟩, ?_⟩
          exact (Sub.cons rfl (by first | rfl | exact congrArg (Value.int _) (by omega)) (Sub.cons rfl rfl (Sub.nil _)))
        ·
          obtain rfl := u8e (c := 0) h25
          have hz2 := hz.symm.trans (z_some hx (by omega) hnz)
          obtain rfl : i = p.length := by injection hz2 with q; injection q with q1 q2; rw [q1, List.length_take]; omega
          refine T_exit ?_
          refine hK3 _ _ ?_
          refine T_seq fun K6 hK6 => ?_
          refine T_seq fun K7 hK7 => ?_
          refine T_region ?_
          refine L_y (y_move rfl) rfl ?_
          refine L_y (y_move rfl) rfl ?_
          refine L_y (y_len Tryz.underlying22 rfl) rfl ?_
          refine L_y (y_eql rfl rfl) rfl ?_
          refine L_y (y_move rfl) rfl ?_
          refine L_split 32 rfl (fun h32 => ?_) (fun h32 => ?_)
          ·
            omega
          ·
            refine L_gyes rfl rfl ?_
            refine L_y (y_move rfl) rfl ?_
            refine L_gyes rfl rfl ?_
            refine L_y (y_eql rfl rfl) rfl ?_
            refine L_y ((by first | exact y_pickT rfl rfl | exact y_pickF rfl rfl)) rfl ?_
            refine L_nil ?_
            refine hK7 _ _ ?_
            refine T_cond rfl (fun h35 => ?_) (fun h35 => ?_)
            ·
              omega
            ·
              refine T_skip ?_
              refine hK6 _ _ ?_
              refine T_seq fun K8 hK8 => ?_
              refine T_region ?_
              refine L_y (y_assign rfl) rfl ?_
              refine L_nil ?_
              refine hK8 _ _ ?_
              refine T_seq fun K9 hK9 => ?_
              refine T_block ?_
              refine T_loop1 [(0, _), (5, _)] (fun (j : Nat) => [(6, .int .i64 (j : Int))]) (fun (j : Nat) => p.length - j) (fun (j : Nat) (w : World) => (j ≤ p.length ∧ (32 : UInt8) ∉ p.take j) ∧ Zx.St w0 noM [] w) 0 (Sub.cons rfl (by first | rfl | exact congrArg (Value.int _) (by omega)) (Sub.nil _)) (Sub.cons rfl rfl (Sub.cons rfl rfl (Sub.nil _))) ?_ ?_
              ·
                exact ⟨⟨by omega, by simp⟩, S1⟩
              ·
                intro j w5 hrel
                obtain ⟨⟨hjp, hns⟩, S5⟩ := hrel
                refine T_seq fun K10 hK10 => ?_
                refine T_seq fun K11 hK11 => ?_
                refine T_region ?_
                refine L_y (y_move rfl) rfl ?_
                refine L_y (y_move rfl) rfl ?_
                refine L_y (y_lss rfl rfl) rfl ?_
                refine L_y (y_move rfl) rfl ?_
                refine L_split 39 rfl (fun h39 => ?_) (fun h39 => ?_)
                ·
                  obtain ⟨y, hy⟩ : ∃ y, p[j]? = some y := ⟨_, List.getElem?_eq_getElem (by omega)⟩
                  have hby : b[j]? = some y := by rw [← htp, List.getElem?_take, if_pos (by omega)] at hy; exact hy
                  have hy9 := y.toNat_lt
                  refine L_gyes rfl rfl ?_
                  refine L_y (y_move rfl) rfl ?_
                  refine L_gyes rfl rfl ?_
                  refine L_y (y_move rfl) rfl ?_
                  refine L_gyes rfl rfl ?_
                  refine L_y (y_idx Tryz.underlying22 sz5 rfl rfl (by first | exact S5.rd hb) inferInstance (by omega)) rfl ?_
                  refine L_gyes rfl rfl ?_
                  refine L_y (y_ldr Tryz.underlying5 rfl rfl (S5.rd hb) (bL_get _ _ _ hby)) rfl ?_
                  refine L_gyes rfl rfl ?_
                  refine L_y (y_neq rfl rfl) rfl ?_
                  refine L_y ((by first | exact y_pickT rfl rfl | exact y_pickF rfl rfl)) rfl ?_
                  refine L_nil ?_
                  refine hK11 _ _ ?_
                  refine T_cond rfl (fun h45 => ?_) (fun h45 => ?_)
                  ·
                    refine T_skip ?_
                    refine hK10 _ _ ?_
                    refine T_block ?_
                    refine T_region ?_
                    refine L_y (y_move rfl) rfl ?_
                    refine L_y (y_add rfl rfl (i64w (by omega))) rfl ?_
                    refine L_y (y_assign rfl) rfl ?_
                    refine L_nil ?_
                    refine ⟨j + 1, by omega, ⟨⟨by omega, char_succ hy (u8n (c := 32) h45) hns⟩, S5⟩, ?_⟩
                    exact (Sub.cons rfl (by first | rfl | exact congrArg (Value.int _) (by omega)) (Sub.cons rfl rfl (Sub.cons rfl rfl (Sub.nil _))))
                  ·
                    obtain rfl := u8e (c := 32) h45
                    have hs2 := hs.symm.trans (char_in (by omega) hy hns)
                    obtain ⟨hw1, hg1⟩ : wd = p.take j ∧ dg = p.drop (j + 1) := by injection hs2 with q; injection q with q1 q2; exact ⟨q1, q2⟩
                    have hbw := hb.cutb (l := 0) (u := j) (by omega) (by omega)
                    rw [show (b.drop 0).take (j - 0) = wd by rw [List.drop_zero, Nat.sub_zero, hw1, ← htp, List.take_take, Nat.min_eq_left (by omega)]] at hbw
                    have hbg := hb.cutb (l := j + 1) (u := p.length) (by omega) (by omega)
                    rw [show (b.drop (j + 1)).take (p.length - (j + 1)) = dg by rw [hg1]; conv => (rhs; rw [← htp]); rw [List.drop_take]] at hbg
                    refine T_exit ?_
                    refine hK9 _ _ ?_
                    refine T_seq fun K12 hK12 => ?_
                    refine T_seq fun K13 hK13 => ?_
                    refine T_region ?_
                    refine L_y (y_move rfl) rfl ?_
                    refine L_y (y_move rfl) rfl ?_
                    refine L_y (y_eql rfl rfl) rfl ?_
                    refine L_nil ?_
                    refine hK13 _ _ ?_
                    refine T_cond rfl (fun h50 => ?_) (fun h50 => ?_)
                    ·
                      omega
                    ·
                      refine T_skip ?_
                      refine hK12 _ _ ?_
                      refine T_seq fun K14 hK14 => ?_
                      refine T_region ?_
                      refine L_y (y_move rfl) rfl ?_
                      refine L_y (y_move rfl) rfl ?_
                      refine L_y (y_sliceH Tryz.underlying22 sz5 rfl rfl inferInstance (by omega)) rfl ?_
                      refine L_y (y_bstr Tryz.underlying22 Tryz.underlying5 Tryz.underlying9 rfl (S5.rd hbw)) rfl ?_
                      refine L_o (o_call Tryz.func20 rfl rfl (rkind_ ⟨wd.toArray⟩ w5) rfl rfl ?_)
                      rintro e7 w7 ⟨v7, rfl, l7, rfl⟩
                      refine ⟨_, rfl, ?_⟩
                      have S7 := S5.like l7
                      refine L_y (y_assign rfl) rfl ?_
                      refine L_nil ?_
                      refine hK14 _ _ ?_
                      refine T_seq fun K15 hK15 => ?_
                      refine T_region ?_
                      refine L_y (y_move rfl) rfl ?_
                      refine L_y (y_move rfl) rfl ?_
                      refine L_y (y_add rfl rfl (i64w (by omega))) rfl ?_
                      refine L_y (y_move rfl) rfl ?_
                      refine L_y (y_slice Tryz.underlying22 sz5 rfl rfl rfl inferInstance (Nt.mk rfl : Nt _ (p.length)) (by omega) (by omega)) rfl ?_
                      refine L_y (y_bstr Tryz.underlying22 Tryz.underlying5 Tryz.underlying9 rfl (S7.rd hbg)) rfl ?_
                      refine L_o (o_call Tryz.func49 rfl rfl (Rev.rnumber ⟨dg.toArray⟩ w7) rfl rfl ?_)
                      rintro e8 w8 ⟨v8, rfl, l8, hu8⟩
                      refine ⟨_, rfl, ?_⟩
                      have S8 := S7.like l8
                      rw [show Rev.numR _ = _ from numR_ok hk] at hu8
                      subst hu8
                      refine L_y (y_move rfl) rfl ?_
                      refine L_y (y_extract rfl rfl) rfl ?_
                      refine L_y (y_extract rfl rfl) rfl ?_
                      refine L_y (y_assign rfl) rfl ?_
                      refine L_y (y_assign rfl) rfl ?_
                      refine L_nil ?_
                      refine hK15 _ _ ?_
                      refine T_seq fun K16 hK16 => ?_
                      refine T_seq fun K17 hK17 => ?_
                      refine T_region ?_
                      refine L_y (y_move rfl) rfl ?_
                      refine L_y (y_eql rfl rfl) rfl ?_
                      refine L_y (y_move rfl) rfl ?_
                      refine L_split 68 rfl (fun h68 => ?_) (fun h68 => ?_)
                      ·
                        refine L_gno rfl rfl rfl ?_
                        refine L_gno rfl rfl rfl ?_
                        refine L_y ((by first | exact y_pickT rfl rfl | exact y_pickF rfl rfl)) rfl ?_
                        refine L_nil ?_
                        refine hK17 _ _ ?_
                        refine T_true rfl ?_
                        refine T_seq fun K18 hK18 => ?_
                        refine T_region ?_
                        refine L_y (y_assign rfl) rfl ?_
                        refine L_y (y_assign rfl) rfl ?_
                        refine L_y (y_assign rfl) rfl ?_
                        refine L_nil ?_
                        refine hK18 _ _ ?_
                        refine T_ret ?_
                        repeat (first | with_reducible refine up_then ?_ | with_reducible refine up_in ?_)
                        refine ret3 rfl rfl rfl rfl ?_
                        have he : splitC b = (12, 0, []) := by rw [split_of hz hs]; rw [if_pos h68]
                        exact ⟨_, rfl, S8.like0, none, 0, by rw [he]; rfl, by rw [he]; exact World.ownsRow_nil _ _ _ _⟩
                      ·
                        have hd3 : (b.drop (p.length + 1)).length = m - (p.length + 1) := by rw [List.length_drop, hl]
                        refine L_gyes rfl rfl ?_
                        refine L_y (y_move rfl) rfl ?_
                        refine L_gyes rfl rfl ?_
                        refine L_y (y_neq rfl rfl) rfl ?_
                        refine L_y ((by first | exact y_pickT rfl rfl | exact y_pickF rfl rfl)) rfl ?_
                        refine L_nil ?_
                        refine hK17 _ _ ?_
                        refine T_cond rfl (fun h71 => ?_) (fun h71 => ?_)
                        ·
                          exact absurd rfl h71
                        ·
                          refine T_skip ?_
                          refine hK16 _ _ ?_
                          refine T_seq fun K19 hK19 => ?_
                          refine T_seq fun K20 hK20 => ?_
                          refine T_region ?_
                          refine L_y (y_move rfl) rfl ?_
                          refine L_y (y_len Tryz.underlying22 rfl) rfl ?_
                          refine L_y (y_move rfl) rfl ?_
                          refine L_y (y_sub rfl rfl (i64w (by omega))) rfl ?_
                          refine L_y (y_sub rfl rfl (i64w (by omega))) rfl ?_
                          refine L_y (y_move rfl) rfl ?_
                          refine L_y (y_lss rfl rfl) rfl ?_
                          refine L_nil ?_
                          refine hK20 _ _ ?_
                          refine T_cond rfl (fun h78 => ?_) (fun h78 => ?_)
                          ·
                            refine T_seq fun K21 hK21 => ?_
                            refine T_region ?_
                            refine L_y (y_assign rfl) rfl ?_
                            refine L_y (y_assign rfl) rfl ?_
                            refine L_y (y_assign rfl) rfl ?_
                            refine L_nil ?_
                            refine hK21 _ _ ?_
                            refine T_ret ?_
                            repeat (first | with_reducible refine up_then ?_ | with_reducible refine up_in ?_)
                            refine ret3 rfl rfl rfl rfl ?_
                            have he : splitC b = (10, 0, []) := by rw [split_of hz hs]; rw [if_neg h68, if_neg (by rw [hk]; decide), if_pos (by omega)]
                            exact ⟨_, rfl, S8.like0, none, 0, by rw [he]; rfl, by rw [he]; exact World.ownsRow_nil _ _ _ _⟩
                          ·
                            refine T_skip ?_
                            refine hK19 _ _ ?_
                            refine T_seq fun K22 hK22 => ?_
                            refine T_seq fun K23 hK23 => ?_
                            refine T_region ?_
                            refine L_y (y_move rfl) rfl ?_
                            refine L_y (y_len Tryz.underlying22 rfl) rfl ?_
                            refine L_y (y_move rfl) rfl ?_
                            refine L_y (y_sub rfl rfl (i64w (by omega))) rfl ?_
                            refine L_y (y_sub rfl rfl (i64w (by omega))) rfl ?_
                            refine L_y (y_move rfl) rfl ?_
                            refine L_y (y_gtr rfl rfl) rfl ?_
                            refine L_nil ?_
                            refine hK23 _ _ ?_
                            refine T_cond rfl (fun h85 => ?_) (fun h85 => ?_)
                            ·
                              refine T_seq fun K24 hK24 => ?_
                              refine T_region ?_
                              refine L_y (y_assign rfl) rfl ?_
                              refine L_y (y_assign rfl) rfl ?_
                              refine L_y (y_assign rfl) rfl ?_
                              refine L_nil ?_
                              refine hK24 _ _ ?_
                              refine T_ret ?_
                              repeat (first | with_reducible refine up_then ?_ | with_reducible refine up_in ?_)
                              refine ret3 rfl rfl rfl rfl ?_
                              have he : splitC b = (12, 0, []) := by rw [split_of hz hs]; rw [if_neg h68, if_neg (by rw [hk]; decide), if_neg (by omega), if_pos (by omega)]
                              exact ⟨_, rfl, S8.like0, none, 0, by rw [he]; rfl, by rw [he]; exact World.ownsRow_nil _ _ _ _⟩
                            ·
                              refine T_skip ?_
                              refine hK22 _ _ ?_
                              refine T_seq fun K25 hK25 => ?_
                              refine T_region ?_
                              refine L_y (y_move rfl) rfl ?_
                              refine L_y (y_move rfl) rfl ?_
                              refine L_y (y_move rfl) rfl ?_
                              refine L_y (y_add rfl rfl (i64w (by omega))) rfl ?_
                              have hdl : (b.drop (p.length + 1)).length = m - (p.length + 1) := by rw [List.length_drop, hl]
                              refine L_y (y_sliceL Tryz.underlying22 sz5 rfl rfl (Nt.mk (by omega) : Nt _ (p.length + 1)) (by omega)) rfl ?_
                              refine L_o (o_call Tryz.func16 rfl rfl (rcheck_ (kindS ⟨wd.toArray⟩) _ _ _ (b.drop (p.length + 1)) w8 (rs_tail (p.length + 1) (S8.rd hb) (by omega))) rfl rfl ?_)
                              rintro e10 w10 ⟨v10, rfl, l10, rfl⟩
                              refine ⟨_, rfl, ?_⟩
                              have S10 := S8.like l10
                              refine L_y (y_assign rfl) rfl ?_
                              refine L_nil ?_
                              refine hK25 _ _ ?_
                              refine T_seq fun K26 hK26 => ?_
                              refine T_seq fun K27 hK27 => ?_
                              refine T_region ?_
                              refine L_y (y_move rfl) rfl ?_
                              refine L_y (y_neq rfl rfl) rfl ?_
                              refine L_nil ?_
                              refine hK27 _ _ ?_
                              refine T_cond rfl (fun h93 => ?_) (fun h93 => ?_)
                              ·
                                refine T_seq fun K28 hK28 => ?_
                                refine T_region ?_
                                refine L_y (y_move rfl) rfl ?_
                                refine L_y (y_assign rfl) rfl ?_
                                refine L_y (y_assign rfl) rfl ?_
                                refine L_y (y_assign rfl) rfl ?_
                                refine L_nil ?_
                                refine hK28 _ _ ?_
                                refine T_ret ?_
                                repeat (first | with_reducible refine up_then ?_ | with_reducible refine up_in ?_)
                                refine ret3 rfl rfl rfl rfl ?_
                                have he : splitC b = (objE (kindS ⟨wd.toArray⟩) (b.drop (p.length + 1)), 0, []) := by rw [split_of hz hs]; rw [if_neg h68, if_neg (by rw [hk]; decide), if_neg (by omega), if_neg (by omega), if_pos h93]
                                exact ⟨_, rfl, S10.like0, none, 0, by rw [he]; rfl, by rw [he]; exact World.ownsRow_nil _ _ _ _⟩
                              ·
                                refine T_skip ?_
                                refine hK26 _ _ ?_
                                refine T_seq fun K29 hK29 => ?_
                                refine T_region ?_
                                have S11 := S10.nilrow 5 1
                                refine L_y (y_assign rfl) rfl ?_
                                refine L_nil ?_
                                refine hK29 _ _ ?_
                                refine T_seq fun K30 hK30 => ?_
                                refine T_region ?_
                                refine L_y (y_move rfl) rfl ?_
                                refine L_y (y_move rfl) rfl ?_
                                refine L_y (y_move rfl) rfl ?_
                                refine L_y (y_add rfl rfl (i64w (by omega))) rfl ?_
                                refine L_y (y_sliceL Tryz.underlying22 sz5 rfl rfl (Nt.mk (by omega) : Nt _ (p.length + 1)) (by omega)) rfl ?_
                                refine L_o (o_app te22 S11 0 rfl rfl rfl (rs_tail (p.length + 1) (S11.rd hb) (by omega)) (bL_one _) rfl (by omega) (by omega) fun A12 c12 w12 S12 => ?_)
                                refine L_y (y_assign rfl) rfl ?_
                                refine L_nil ?_
                                refine hK30 _ _ ?_
                                refine T_seq fun K31 hK31 => ?_
                                refine T_region ?_
                                refine L_y (y_move rfl) rfl ?_
                                refine L_y (y_move rfl) rfl ?_
                                refine L_y (y_assign rfl) rfl ?_
                                refine L_y (y_assign rfl) rfl ?_
                                refine L_y (y_assign rfl) rfl ?_
                                refine L_nil ?_
                                refine hK31 _ _ ?_
                                refine T_ret ?_
                                repeat (first | with_reducible refine up_then ?_ | with_reducible refine up_in ?_)
                                refine ret3 rfl rfl rfl rfl ?_
                                have he : splitC b = (0, kindS ⟨wd.toArray⟩, b.drop (p.length + 1)) := by rw [split_of hz hs]; rw [if_neg h68, if_neg (by rw [hk]; decide), if_neg (by omega), if_neg (by omega), if_neg h93]
                                have S93 := S12.rowc 0 rfl (n' := (b.drop (p.length + 1)).length) (by omega) (by first | rfl | simp)
                                rw [he]
                                refine ⟨_, rfl, S12.like0, _, _, ?_, S93.own 0 rfl⟩
                                simp [hdl]
                ·
                  exact absurd ((Rev.cutF_no (by rwa [List.take_of_length_le (by omega)] at hns)).symm.trans hs) (by simp)
      ·
        exact absurd ((nz_none hnz (by omega)).symm.trans hz) (by simp)
    ·
      exact absurd ((nz_none hnz (by omega)).symm.trans hz) (by simp)


theorem rsplit_ (B : Option Addr) (m d : Nat) (b : List UInt8) (w0 : World) (hb : Rs w0 1 B m d (bL b)) (hm9 : m ≤ 90000) : Calls Tryz.prog 22 #[.slice B m d] w0 fun e w' => ∃ u, e = .returned u ∧ Like w0 w' ∧ ∃ A c, u = .tuple #[.int .i64 (splitC b).2.1, .slice A (splitC b).2.2.length c, .int .i64 (splitC b).1] ∧ w'.ownsRow w0.heap.size 5 1 (.slice A (splitC b).2.2.length c) (splitC b).2.2.length (bL (splitC b).2.2) := by
  cases hz : cutF 0 (b.take 20) with
  | none => exact rsplit0 B m d b w0 hb hm9 hz
  | some pq =>
    obtain ⟨p, q⟩ := pq
    cases hs : cutF 32 p with
    | none => exact rsplit1 B m d b w0 hb hm9 p q hz hs
    | some wg =>
      obtain ⟨wd, dg⟩ := wg
      cases hk : Rev.numOk dg with
      | false => exact rsplit2 B m d b w0 hb hm9 p q hz wd dg hs hk
      | true => exact rsplit3 B m d b w0 hb hm9 p q hz wd dg hs hk
end Go.Proofs.YtgaklngnfecdaaaGreat.Obj


/-
  The law ObjectSplits.
-/
namespace Go.Proofs.YtgaklngnfecdaaaGreat.Obj
open Go.RowKit Zk Zx
open Oid (idf idf_len)
open Tre (nmOk EV enf enf_len mdOk chkE)
open Rev (cutF cutF_some cutF_none)
set_option linter.unusedVariables false
set_option linter.unusedSimpArgs false

set_option maxRecDepth 100000 in
theorem lsplits (B : Option Addr) (m d : Nat) (b : List UInt8) (w0 : World) (hb : Rs w0 1 B m d (bL b)) :
    Calls Tryz.prog 4 #[.slice B m d] w0 fun e w' => ∃ u, e = .returned u ∧ Like w0 w' ∧ u = .bool true := by
  refine enter1 (env := [(0, .slice B m d)]) [.slice B m d] Tryz.func4 rfl Tryz.ntmps4 rfl rfl ?_
  have hm := hb.lenb; have hcap := hb.cap; have hmax := hb.max
  have S0 := St.start w0 noM
  refine T_seq fun K1 hK1 => ?_
  refine T_region ?_
  refine L_y (y_assign rfl) rfl ?_
  refine L_nil ?_
  refine hK1 _ _ ?_
  refine T_seq fun K2 hK2 => ?_
  refine T_seq fun K3 hK3 => ?_
  refine T_region ?_
  refine L_y (y_move rfl) rfl ?_
  refine L_y (y_len Tryz.underlying22 rfl) rfl ?_
  refine L_y (y_gtr rfl rfl) rfl ?_
  refine L_nil ?_
  refine hK3 _ _ ?_
  refine T_cond rfl (fun h14 => ?_) (fun h14 => ?_)
  ·
    refine T_seq fun K4 hK4 => ?_
    refine T_region ?_
    refine L_o (o_call Tryz.func11 rfl rfl (works8 w0) rfl rfl ?_)
    rintro e1 w1 ⟨v1, rfl, l1, rfl⟩
    refine ⟨_, rfl, ?_⟩
    have S1 := S0.like l1
    refine L_y (y_assign rfl) rfl ?_
    refine L_nil ?_
    refine hK4 _ _ ?_
    refine T_ret ?_
    repeat (first | with_reducible refine up_then ?_ | with_reducible refine up_in ?_)
    refine ret1 rfl rfl ?_
    exact ⟨_, rfl, S1.like0, by simp⟩
  ·
    refine T_skip ?_
    refine hK2 _ _ ?_
    refine T_seq fun K5 hK5 => ?_
    refine T_region ?_
    refine L_o (o_bsl0 te22 S0 rfl fun b2 w2 l2 S2 => ?_)
    refine L_y (y_move rfl) rfl ?_
    refine L_o (o_app te22 S2 0 rfl rfl rfl (S2.rd hb) (bL_one _) rfl (by omega) (by omega) fun A3 c3 w3 S3 => ?_)
    refine L_y (y_assign rfl) rfl ?_
    refine L_nil ?_
    refine hK5 _ _ ?_
    refine T_seq fun K6 hK6 => ?_
    refine T_region ?_
    refine L_y (y_move rfl) rfl ?_
    refine L_o (o_call Tryz.func21 rfl rfl (split_ _ _ _ b w3 (S3.row 0 rfl) (by omega)) rfl rfl ?_)
    rintro e4 w4 ⟨v4, rfl, l4, A21, c21, rfl, O4⟩
    refine ⟨_, rfl, ?_⟩
    have S4 := S3.adopt l4 O4
    refine L_y (y_move rfl) rfl ?_
    refine L_y (y_extract rfl rfl) rfl ?_
    refine L_y (y_extract rfl rfl) rfl ?_
    refine L_y (y_extract rfl rfl) rfl ?_
    refine L_y (y_assign rfl) rfl ?_
    refine L_y (y_assign rfl) rfl ?_
    refine L_y (y_assign rfl) rfl ?_
    refine L_nil ?_
    refine hK6 _ _ ?_
    refine T_seq fun K7 hK7 => ?_
    refine T_region ?_
    refine L_y (y_move rfl) rfl ?_
    refine L_o (o_call Tryz.func22 rfl rfl (rsplit_ B m d b w4 (S4.rd hb) (by omega)) rfl rfl ?_)
    rintro e5 w5 ⟨v5, rfl, l5, A27, c27, rfl, O5⟩
    refine ⟨_, rfl, ?_⟩
    have S5 := S4.adopt l5 O5
    refine L_y (y_move rfl) rfl ?_
    refine L_y (y_extract rfl rfl) rfl ?_
    refine L_y (y_extract rfl rfl) rfl ?_
    refine L_y (y_extract rfl rfl) rfl ?_
    refine L_y (y_assign rfl) rfl ?_
    refine L_y (y_assign rfl) rfl ?_
    refine L_y (y_assign rfl) rfl ?_
    refine L_nil ?_
    refine hK7 _ _ ?_
    refine T_seq fun K8 hK8 => ?_
    refine T_region ?_
    refine L_y (y_move rfl) rfl ?_
    refine L_y (y_move rfl) rfl ?_
    refine L_o (o_call Tryz.func14 rfl rfl (Oct.same _ _ _ _ _ _ _ _ w5 (S5.row 0 rfl) (S5.rd hb)) rfl rfl ?_)
    rintro e6 w6 ⟨v6, rfl, l6, rfl⟩
    refine ⟨_, rfl, ?_⟩
    have S6 := S5.like l6
    refine L_y (y_assign rfl) rfl ?_
    refine L_nil ?_
    refine hK8 _ _ ?_
    refine T_seq fun K9 hK9 => ?_
    refine T_seq fun K10 hK10 => ?_
    refine T_region ?_
    refine L_y (y_assign rfl) rfl ?_
    refine L_nil ?_
    refine hK10 _ _ ?_
    refine T_block ?_
    refine T_loop2 [(3, _), (4, _), (5, _), (6, _), (7, _), (8, _), (9, _), (10, _)] (fun (k : Nat) (q : List UInt8) => [(11, .int .i64 (k : Int))]) (fun (k : Nat) (q : List UInt8) => m - k) (fun (k : Nat) (q : List UInt8) (w : World) => (k ≤ m ∧ q.length = m) ∧ Zx.St w0 noM [Zx.row 5 1 A3 (0 + m) c3 (bL q), Zx.row 5 1 A21 (splitC b).2.2.length c21 (bL (splitC b).2.2), Zx.row 5 1 A27 (splitC b).2.2.length c27 (bL (splitC b).2.2)] w) 0 b (Sub.cons rfl (by first | rfl | exact congrArg (Value.int _) (by omega)) (Sub.nil _)) (Sub.cons rfl rfl (Sub.cons rfl rfl (Sub.cons rfl rfl (Sub.cons rfl rfl (Sub.cons rfl rfl (Sub.cons rfl rfl (Sub.cons rfl rfl (Sub.cons rfl rfl (Sub.nil _))))))))) ?_ ?_
    ·
      exact ⟨⟨by omega, hm⟩, S6⟩
    ·
      intro k q w7 hrel
      obtain ⟨⟨hk, hql⟩, S7⟩ := hrel
      refine T_seq fun K11 hK11 => ?_
      refine T_seq fun K12 hK12 => ?_
      refine T_region ?_
      refine L_y (y_move rfl) rfl ?_
      refine L_y (y_move rfl) rfl ?_
      refine L_y (y_len Tryz.underlying22 rfl) rfl ?_
      refine L_y (y_lss rfl rfl) rfl ?_
      refine L_nil ?_
      refine hK12 _ _ ?_
      refine T_cond rfl (fun h37 => ?_) (fun h37 => ?_)
      ·
        have hq := hql
        obtain ⟨x, hx⟩ : ∃ x, q[k]? = some x := ⟨_, List.getElem?_eq_getElem (by omega)⟩
        refine T_skip ?_
        refine hK11 _ _ ?_
        refine T_seq fun K13 hK13 => ?_
        refine T_block ?_
        refine T_region ?_
        refine L_y (y_move rfl) rfl ?_
        refine L_y (y_move rfl) rfl ?_
        refine L_y (y_idx Tryz.underlying22 sz5 rfl rfl (S7.row 0 rfl) inferInstance (by omega)) rfl ?_
        refine L_y (y_ldr Tryz.underlying5 rfl rfl (S7.row 0 rfl) (bL_get _ _ _ hx)) rfl ?_
        refine L_y (y_bits rfl rfl rfl (xorX x)) rfl ?_
        refine L_y (y_idx Tryz.underlying22 sz5 rfl rfl (S7.row 0 rfl) inferInstance (by omega)) rfl ?_
        refine L_o (o_strow S7 0 rfl rfl rfl rfl sz5 (by omega) fun w8 S8 => ?_)
        refine L_nil ?_
        refine hK13 _ _ ?_
        refine T_region ?_
        refine L_y (y_move rfl) rfl ?_
        refine L_y (y_add rfl rfl (i64w (by omega))) rfl ?_
        refine L_y (y_assign rfl) rfl ?_
        refine L_nil ?_
        have S91 := S8.rowc 0 rfl rfl (bL_setX q k _)
        refine ⟨k + 1, q.set k (UInt8.ofNat (255 - x.toNat)), by omega, ⟨⟨by omega, by rw [List.length_set]; exact hql⟩, S91⟩, ?_⟩
        exact (Sub.cons rfl (by first | rfl | exact congrArg (Value.int _) (by omega)) (Sub.cons rfl rfl (Sub.cons rfl rfl (Sub.cons rfl rfl (Sub.cons rfl rfl (Sub.cons rfl rfl (Sub.cons rfl rfl (Sub.cons rfl rfl (Sub.cons rfl rfl (Sub.nil _))))))))))
      ·
        refine T_exit ?_
        refine hK9 _ _ ?_
        refine T_seq fun K14 hK14 => ?_
        refine T_region ?_
        refine L_y (y_move rfl) rfl ?_
        refine L_y (y_move rfl) rfl ?_
        refine L_y (y_eql rfl rfl) rfl ?_
        refine L_y (y_move rfl) rfl ?_
        refine L_split 49 rfl (fun h49 => ?_) (fun h49 => ?_)
        ·
          refine L_gyes rfl rfl ?_
          refine L_y (y_move rfl) rfl ?_
          refine L_gyes rfl rfl ?_
          refine L_y (y_move rfl) rfl ?_
          refine L_gyes rfl rfl ?_
          refine L_o (o_call Tryz.func14 rfl rfl (Oct.same _ _ _ _ _ _ _ _ w7 (S7.row 1 rfl) (S7.row 2 rfl)) rfl rfl ?_)
          rintro e10 w10 ⟨v10, rfl, l10, rfl⟩
          refine ⟨_, rfl, ?_⟩
          have S10 := S7.like l10
          refine L_y ((by first | exact y_pickT rfl rfl | exact y_pickF rfl rfl)) rfl ?_
          refine L_y (y_move rfl) rfl ?_
          refine L_split 54 rfl (fun h54 => ?_) (fun h54 => ?_)
          ·
            refine L_gyes rfl rfl ?_
            refine L_y (y_move rfl) rfl ?_
            refine L_gyes rfl rfl ?_
            refine L_y (y_move rfl) rfl ?_
            refine L_gyes rfl rfl ?_
            refine L_y (y_eql rfl rfl) rfl ?_
            refine L_y ((by first | exact y_pickT rfl rfl | exact y_pickF rfl rfl)) rfl ?_
            refine L_y (y_move rfl) rfl ?_
            refine L_split 59 rfl (fun h59 => ?_) (fun h59 => ?_)
            ·
              refine L_gyes rfl rfl ?_
              refine L_y (y_move rfl) rfl ?_
              refine L_y ((by first | exact y_pickT rfl rfl | exact y_pickF rfl rfl)) rfl ?_
              refine L_y (y_move rfl) rfl ?_
              refine L_split 62 rfl (fun h62 => ?_) (fun h62 => ?_)
              ·
                refine L_gyes rfl rfl ?_
                refine L_o (o_call Tryz.func11 rfl rfl (works8 w10) rfl rfl ?_)
                rintro e14 w14 ⟨v14, rfl, l14, rfl⟩
                refine ⟨_, rfl, ?_⟩
                have S14 := S10.like l14
                refine L_y ((by first | exact y_pickT rfl rfl | exact y_pickF rfl rfl)) rfl ?_
                refine L_y (y_assign rfl) rfl ?_
                refine L_nil ?_
                refine hK14 _ _ ?_
                refine T_ret ?_
                repeat (first | with_reducible refine up_then ?_ | with_reducible refine up_in ?_)
                refine ret1 rfl rfl ?_
                exact ⟨_, rfl, S14.like0, by simp⟩
              ·
                exact absurd rfl h62
            ·
              exact absurd rfl h59
          ·
            exact absurd rfl h54
        ·
          exact absurd rfl h49


theorem lsplits_law (B : Option Addr) (m d : Nat) (b : List UInt8) (w0 : World) (hb : Rs w0 1 B m d (bL b)) :
    Calls Tryz.prog 4 #[.slice B m d] w0 fun e w' => e = .returned (.bool true) ∧ Below w0.heap.size w0 w' :=
  (lsplits B m d b w0 hb).mono fun e w' ⟨u, h1, h2, h3⟩ => by subst h3; exact ⟨h1, h2⟩
end Go.Proofs.YtgaklngnfecdaaaGreat.Obj
