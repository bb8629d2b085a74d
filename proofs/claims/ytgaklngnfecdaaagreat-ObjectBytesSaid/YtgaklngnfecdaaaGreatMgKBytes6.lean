import Derived.Test.YtgaklngnfecdaaaGreatMgKBytes4
import Derived.Test.YtgaklngnfecdaaaGreatMgKBytes5

/-
  The reference: Get and GetMark at longer bytes.
-/
namespace Go.Proofs.YtgaklngnfecdaaaGreat.Rev
open Go.RowKit Zk Zx
open Oid (idf hexL idf_len readR)
open Tre (nmOk)
set_option linter.unusedVariables false
set_option linter.unusedSimpArgs false

set_option maxRecDepth 100000 in
theorem rgetB (B : Option Addr) (m0 d : Nat) (s : List UInt8) (w0 : World) (hb : Rs w0 1 B m0 d (bL s)) (hl : s.length ≤ 90000) :
    Calls Tryz.prog 42 #[.slice B m0 d] w0 fun e w' => ∃ u, e = .returned u ∧ Like w0 w' ∧ ∃ A c, Fr w0 w' 32 A (gval s).ps.length c ((gval s).ps.flatMap idf) ∧ u = .tuple #[.agg (cmf (cmOf (gval s) A (gval s).ps.length c)).toArray, .int .i64 (gcode s)] := by
  refine enter1 (env := [(0, .slice B m0 d)]) [.slice B m0 d] Tryz.func42 rfl Tryz.ntmps42 rfl rfl ?_
  have S0 := St.start w0 noM
  refine T_seq fun K1 hK1 => ?_
  refine T_region ?_
  refine L_o (o_alloc zz83 S0 rfl fun b1 w1 hb1 S1 => ?_)
  refine L_y (y_assign rfl) rfl ?_
  refine L_nil ?_
  refine hK1 _ _ ?_
  refine T_seq fun K2 hK2 => ?_
  refine T_region ?_
  refine L_o (o_alloc zz83 S1 rfl fun b2 w2 hb2 S2 => ?_)
  have S3 : Zx.St w0 noM [blk b1 83 (cmf zCm).toArray, blk b2 83 (cmf zCm).toArray] w2 := S2.cast (by kernel_rfl)
  refine L_nil ?_
  refine hK2 _ _ ?_
  refine T_seq fun K3 hK3 => ?_
  refine T_region ?_
  refine L_y (y_move rfl) rfl ?_
  refine L_y (y_bstr Tryz.underlying22 Tryz.underlying5 Tryz.underlying9 rfl (by first | exact S3.rd hb)) rfl ?_
  refine L_o (o_call Tryz.func78 rfl rfl (rline s wTree w2 (by omega) (by decide)) rfl rfl ?_)
  rintro e4 w4 ⟨v4, rfl, l4, hu4⟩
  refine ⟨_, rfl, ?_⟩
  have S4 := S3.like l4
  obtain ⟨ta, s1, f1, hvf1, h1f1, h0f1, hlf1, hmf1⟩ := lineV_b wTree s
  rw [hvf1] at hu4
  subst hu4
  refine L_y (y_move rfl) rfl ?_
  refine L_y (y_extract rfl rfl) rfl ?_
  refine L_y (y_extract rfl rfl) rfl ?_
  refine L_y (y_extract rfl rfl) rfl ?_
  refine L_y (y_assign rfl) rfl ?_
  refine L_y (y_assign rfl) rfl ?_
  refine L_y (y_assign rfl) rfl ?_
  refine L_nil ?_
  refine hK3 _ _ ?_
  refine T_seq fun K4 hK4 => ?_
  refine T_region ?_
  refine L_y (y_move rfl) rfl ?_
  refine L_o (o_call Tryz.func79 rfl rfl (rreadN ta w4) rfl rfl ?_)
  rintro e5 w5 ⟨v5, rfl, l5, t, ht, rfl⟩
  refine ⟨_, rfl, ?_⟩
  have S5 := S4.like l5
  refine L_y (y_move rfl) rfl ?_
  refine L_y (y_extract rfl rfl) rfl ?_
  refine L_y (y_extract rfl rfl) rfl ?_
  refine L_o (o_alloc zz41 S5 rfl fun b6 w6 hb6 S6 => ?_)
  refine L_o (o_stW S6 2 rfl rfl rfl (by rw [List.size_toArray, idf_len]; exact sz41) (by rw [List.size_toArray, idf_len]; simp [Value.cells, idf_len]) (fun u hu => bL_one _ u (by rw [List.toList_toArray] at hu; exact hu)) fun w7 S7 => ?_)
  refine L_y (y_assign rfl) rfl ?_
  refine L_nil ?_
  refine hK4 _ _ ?_
  refine T_seq fun K5 hK5 => ?_
  refine T_seq fun K6 hK6 => ?_
  refine T_region ?_
  refine L_y (y_move rfl) rfl ?_
  refine L_y ((by first | exact y_notD rfl | exact y_not rfl)) rfl ?_
  refine L_y (y_move rfl) rfl ?_
  refine L_splitB 26 rfl (fun h26 => ?_) (fun h26 => ?_)
  ·
    refine L_gno rfl rfl rfl ?_
    refine L_gno rfl rfl rfl ?_
    refine L_y ((by first | exact y_pickT rfl rfl | exact y_pickF rfl rfl)) rfl ?_
    refine L_nil ?_
    refine hK6 _ _ ?_
    refine T_true rfl ?_
    refine T_seq fun K7 hK7 => ?_
    refine T_region ?_
    refine L_y (y_build rfl (show _ = some (cmf zCm).toArray by kernel_rfl)) rfl ?_
    refine L_o (o_stW S7 0 rfl rfl rfl (by rw [cmf_sz]; exact sz83) (by first | (rw [cmf_sz]; done) | (rw [cmf_sz]; rfl)) (fun u hu => cmf_one _ u (by rw [List.toList_toArray] at hu; exact hu)) fun w9 S9 => ?_)
    refine L_y (y_assign rfl) rfl ?_
    refine L_nil ?_
    refine hK7 _ _ ?_
    refine T_ret ?_
    repeat (first | with_reducible refine up_then ?_ | with_reducible refine up_in ?_)
    refine retct rfl rfl rfl (S9.blk 0 rfl) Tryz.underlying83 rfl (by rw [cmf_sz]; exact sz83) ?_
    exact get_out S9.like0 (g1 (id_bad h1f1 h0f1 (by first | exact .inl (by simpa using h26) | exact .inr h29)))
  ·
    refine L_gyes rfl rfl ?_
    refine L_y (y_move rfl) rfl ?_
    refine L_gyes rfl rfl ?_
    refine L_y (y_neq rfl rfl) rfl ?_
    refine L_y ((by first | exact y_pickT rfl rfl | exact y_pickF rfl rfl)) rfl ?_
    refine L_nil ?_
    refine hK6 _ _ ?_
    refine T_cond rfl (fun h29 => ?_) (fun h29 => ?_)
    ·
      refine T_seq fun K8 hK8 => ?_
      refine T_region ?_
      refine L_y (y_build rfl (show _ = some (cmf zCm).toArray by kernel_rfl)) rfl ?_
      refine L_o (o_stW S7 0 rfl rfl rfl (by rw [cmf_sz]; exact sz83) (by first | (rw [cmf_sz]; done) | (rw [cmf_sz]; rfl)) (fun u hu => cmf_one _ u (by rw [List.toList_toArray] at hu; exact hu)) fun w10 S10 => ?_)
      refine L_y (y_assign rfl) rfl ?_
      refine L_nil ?_
      refine hK8 _ _ ?_
      refine T_ret ?_
      repeat (first | with_reducible refine up_then ?_ | with_reducible refine up_in ?_)
      refine retct rfl rfl rfl (S10.blk 0 rfl) Tryz.underlying83 rfl (by rw [cmf_sz]; exact sz83) ?_
      exact get_out S10.like0 (g1 (id_bad h1f1 h0f1 (by first | exact .inl (by simpa using h26) | exact .inr h29)))
    ·
      have hid := id_good ht h1f1 (by simpa using h26) (Classical.byContradiction fun e => h29 e)
      have hl1 := hmf1 (by simpa using h26)
      refine T_skip ?_
      refine hK5 _ _ ?_
      refine T_seq fun K9 hK9 => ?_
      refine T_region ?_
      refine L_y (y_ldW Tryz.underlying41 rfl sz41 rfl (S7.blk 2 rfl) (⟨by rw [List.drop_zero]; exact List.take_of_length_le (by simp [idf_len]), by rw [idf_len]⟩ : _ = idf _ ∧ _)) rfl ?_
      refine L_y (y_fieldA 0 Tryz.underlying83 rfl sz41 rfl rfl rfl) rfl ?_
      refine L_o (o_stR S7 1 rfl rfl rfl (by rw [List.size_toArray, idf_len]; exact sz41) (by rw [List.size_toArray, idf_len, cmf_sz]; omega) (fun u hu => bL_one _ u (by rw [List.toList_toArray] at hu; exact hu)) fun w11 S11 => ?_)
      have S12 := S11.blkc 1 rfl (st_tree _ _)
      refine L_nil ?_
      refine hK9 _ _ ?_
      refine T_seq fun K10 hK10 => ?_
      refine T_block ?_
      refine T_loop7 [(2, _), (4, _), (8, _)] (fun (m : Nat) (s2 : List UInt8) (ps : List Oid.Id) (A : Option Addr) (n : Nat) (c : Nat) (q : List UInt8 × Bool × Int × Oid.Id) => [(5, .string ⟨q.1.toArray⟩), (6, .string ⟨s2.toArray⟩), (7, .bool q.2.1), (9, .int .i64 q.2.2.1)]) (fun (m : Nat) (s2 : List UInt8) (ps : List Oid.Id) (A : Option Addr) (n : Nat) (c : Nat) (q : List UInt8 × Bool × Int × Oid.Id) => m) (fun (m : Nat) (s2 : List UInt8) (ps : List Oid.Id) (A : Option Addr) (n : Nat) (c : Nat) (q : List UInt8 × Bool × Int × Oid.Id) (w : World) => (n = ps.length ∧ s2.length < m ∧ ps.length + s2.length ≤ 100000 ∧ parsR (s.length + 1) s1 = (parsR m s2).map fun q => (ps ++ q.1, q.2)) ∧ Zx.St w0 noM [blk b1 83 (cmf zCm).toArray, blk b2 83 (cmf (⟨t, A, n, c, [], ⟨#[]⟩, 0, ⟨#[]⟩⟩ : Cm)).toArray, blk b6 41 (idf q.2.2.2).toArray, row 41 32 A n c (ps.flatMap idf)] w) (s.length + 1) s1 [] none 0 0 (ta, f1, (readR ta).2, t) (Sub.cons rfl (by first | rfl | exact congrArg (Value.int _) (by omega)) (Sub.cons rfl (by first | rfl | exact congrArg (Value.int _) (by omega)) (Sub.cons rfl (by first | rfl | exact congrArg (Value.int _) (by omega)) (Sub.cons rfl (by first | rfl | exact congrArg (Value.int _) (by omega)) (Sub.nil _))))) (Sub.cons rfl rfl (Sub.cons rfl rfl (Sub.cons rfl rfl (Sub.nil _)))) ?_ ?_
      ·
        have S80 := S12.nilrow 41 32
        exact ⟨⟨rfl, by omega, by simp; omega, by cases parsR (s.length + 1) s1 <;> rfl⟩, S80⟩
      ·
        intro m s2 ps A n c q w13 hrel
        obtain ⟨⟨hn, hm, hb2, hps⟩, S13⟩ := hrel
        refine T_seq fun K11 hK11 => ?_
        refine T_seq fun K12 hK12 => ?_
        refine T_region ?_
        refine L_y (y_move rfl) rfl ?_
        refine L_y (y_lens Tryz.underlying9 rfl) rfl ?_
        refine L_y (y_geq rfl rfl) rfl ?_
        refine L_y (y_move rfl) rfl ?_
        refine L_split 36 rfl (fun h36 => ?_) (fun h36 => ?_)
        ·
          refine L_gyes rfl rfl ?_
          refine L_y (y_move rfl) rfl ?_
          refine L_gyes rfl rfl ?_
          refine L_y (y_ssliceH (u := 7) Tryz.underlying9 rfl rfl (Nt.mk (by omega)) (by omega)) rfl ?_
          refine L_gyes rfl rfl ?_
          refine L_y (y_seql rfl rfl) rfl ?_
          refine L_y ((by first | exact y_pickT rfl rfl | exact y_pickF rfl rfl)) rfl ?_
          refine L_nil ?_
          refine hK12 _ _ ?_
          refine T_cond rfl (fun h40 => ?_) (fun h40 => ?_)
          ·
            have h9 : preP s2 (wParent ++ [32]) := (par_iff s2).1 h40
            refine T_skip ?_
            refine hK11 _ _ ?_
            refine T_block ?_
            refine T_seq fun K13 hK13 => ?_
            obtain ⟨m, rfl⟩ : ∃ k, m = k + 1 := ⟨m - 1, by omega⟩
            refine T_region ?_
            refine L_y (y_move rfl) rfl ?_
            refine L_o (o_call Tryz.func78 rfl rfl (rline s2 wParent w13 (by omega) (by decide)) rfl rfl ?_)
            rintro e15 w15 ⟨v15, rfl, l15, hu15⟩
            refine ⟨_, rfl, ?_⟩
            have S15 := S13.like l15
            obtain ⟨tp, s3, f2, hvf2, h1f2, h0f2, hlf2, hmf2⟩ := lineV_b wParent s2
            rw [hvf2] at hu15
            subst hu15
            refine L_y (y_move rfl) rfl ?_
            refine L_y (y_extract rfl rfl) rfl ?_
            refine L_y (y_extract rfl rfl) rfl ?_
            refine L_y (y_extract rfl rfl) rfl ?_
            refine L_y (y_assign rfl) rfl ?_
            refine L_y (y_assign rfl) rfl ?_
            refine L_y (y_assign rfl) rfl ?_
            refine L_nil ?_
            refine hK13 _ _ ?_
            refine T_seq fun K14 hK14 => ?_
            refine T_region ?_
            refine L_y (y_move rfl) rfl ?_
            refine L_o (o_call Tryz.func79 rfl rfl (rreadN tp w15) rfl rfl ?_)
            rintro e16 w16 ⟨v16, rfl, l16, p, hp, rfl⟩
            refine ⟨_, rfl, ?_⟩
            have S16 := S15.like l16
            refine L_y (y_move rfl) rfl ?_
            refine L_y (y_extract rfl rfl) rfl ?_
            refine L_y (y_extract rfl rfl) rfl ?_
            refine L_o (o_stW S16 2 rfl rfl rfl (by rw [List.size_toArray, idf_len]; exact sz41) (by rw [List.size_toArray, idf_len]; simp [Value.cells, idf_len]) (fun u hu => bL_one _ u (by rw [List.toList_toArray] at hu; exact hu)) fun w17 S17 => ?_)
            refine L_y (y_assign rfl) rfl ?_
            refine L_nil ?_
            refine hK14 _ _ ?_
            refine T_seq fun K15 hK15 => ?_
            refine T_seq fun K16 hK16 => ?_
            refine T_region ?_
            refine L_y (y_move rfl) rfl ?_
            refine L_y ((by first | exact y_notD rfl | exact y_not rfl)) rfl ?_
            refine L_y (y_move rfl) rfl ?_
            refine L_splitB 54 rfl (fun h54 => ?_) (fun h54 => ?_)
            ·
              refine L_gno rfl rfl rfl ?_
              refine L_gno rfl rfl rfl ?_
              refine L_y ((by first | exact y_pickT rfl rfl | exact y_pickF rfl rfl)) rfl ?_
              refine L_nil ?_
              refine hK16 _ _ ?_
              refine T_true rfl ?_
              refine T_seq fun K17 hK17 => ?_
              refine T_region ?_
              refine L_y (y_build rfl (show _ = some (cmf zCm).toArray by kernel_rfl)) rfl ?_
              refine L_o (o_stW S17 0 rfl rfl rfl (by rw [cmf_sz]; exact sz83) (by first | (rw [cmf_sz]; done) | (rw [cmf_sz]; rfl)) (fun u hu => cmf_one _ u (by rw [List.toList_toArray] at hu; exact hu)) fun w19 S19 => ?_)
              refine L_y (y_assign rfl) rfl ?_
              refine L_nil ?_
              refine hK17 _ _ ?_
              refine T_ret ?_
              repeat (first | with_reducible refine up_then ?_ | with_reducible refine up_in ?_)
              refine retct rfl rfl rfl (S19.blk 0 rfl) Tryz.underlying83 rfl (by rw [cmf_sz]; exact sz83) ?_
              exact get_out S19.like0 (g2 hid (by rw [hps, parsR_bad h9 (id_bad h1f2 h0f2 (by first | exact .inl (by simpa using h54) | exact .inr h57))]; rfl))
            ·
              refine L_gyes rfl rfl ?_
              refine L_y (y_move rfl) rfl ?_
              refine L_gyes rfl rfl ?_
              refine L_y (y_neq rfl rfl) rfl ?_
              refine L_y ((by first | exact y_pickT rfl rfl | exact y_pickF rfl rfl)) rfl ?_
              refine L_nil ?_
              refine hK16 _ _ ?_
              refine T_cond rfl (fun h57 => ?_) (fun h57 => ?_)
              ·
                refine T_seq fun K18 hK18 => ?_
                refine T_region ?_
                refine L_y (y_build rfl (show _ = some (cmf zCm).toArray by kernel_rfl)) rfl ?_
                refine L_o (o_stW S17 0 rfl rfl rfl (by rw [cmf_sz]; exact sz83) (by first | (rw [cmf_sz]; done) | (rw [cmf_sz]; rfl)) (fun u hu => cmf_one _ u (by rw [List.toList_toArray] at hu; exact hu)) fun w20 S20 => ?_)
                refine L_y (y_assign rfl) rfl ?_
                refine L_nil ?_
                refine hK18 _ _ ?_
                refine T_ret ?_
                repeat (first | with_reducible refine up_then ?_ | with_reducible refine up_in ?_)
                refine retct rfl rfl rfl (S20.blk 0 rfl) Tryz.underlying83 rfl (by rw [cmf_sz]; exact sz83) ?_
                exact get_out S20.like0 (g2 hid (by rw [hps, parsR_bad h9 (id_bad h1f2 h0f2 (by first | exact .inl (by simpa using h54) | exact .inr h57))]; rfl))
              ·
                have hid4 := id_good hp h1f2 (by simpa using h54) (Classical.byContradiction fun e => h57 e)
                have hl4 := hmf2 (by simpa using h54)
                refine T_skip ?_
                refine hK15 _ _ ?_
                refine T_region ?_
                refine L_y (y_fieldA 32 Tryz.underlying83 rfl sz81 rfl rfl rfl) rfl ?_
                refine L_y (y_ldc Tryz.underlying81 rfl rfl (((S17.blk 1 rfl).cell _).trans (cm32 _))) rfl ?_
                refine L_y (y_ldW Tryz.underlying41 rfl sz41 rfl (S17.blk 2 rfl) (⟨by rw [List.drop_zero]; exact List.take_of_length_le (by simp [idf_len]), by rw [idf_len]⟩ : _ = idf _ ∧ _)) rfl ?_
                refine L_o (o_bsl (idf p) te81 zz41 S17 rfl rfl rfl (by simp [Value.cells, idf_len]) (by simp [Value.cells]) rfl rfl rfl fun b21 w21 S21 => ?_)
                refine L_o (o_app te81 S21 3 rfl rfl rfl (by first | exact S21.rd hb | exact S21.row 4 rfl) (fun u hu => bL_one _ u hu) rfl (by omega) (by omega) fun A22 c22 w22 S22 => ?_)
                have S22d := S22.drop (rs' := [_, _, _, _]) (.cons_cons _ (.cons_cons _ (.cons_cons _ (.cons_cons _ (.cons _ (.refl _))))))
                refine L_y (y_fieldA 32 Tryz.underlying83 rfl sz81 rfl rfl rfl) rfl ?_
                refine L_o (o_st1 S22d 1 rfl rfl rfl rfl sz81 (by rw [cmf_sz]; omega) fun w23 S23 => ?_)
                have S24 := S23.blkc 1 rfl (st32 _ _ _ _)
                refine L_nil ?_
                have S9 := S24.rowc 3 rfl (n' := n + 1) (xs' := (ps ++ [p]).flatMap idf) rfl (by rw [List.flatMap_append]; simp; rfl)
                refine ⟨m, s3, ps ++ [p], _, _, _, (tp, f2, (readR tp).2, p), by omega, ⟨⟨by rw [List.length_append, hn]; rfl, by omega, by rw [List.length_append]; simp only [List.length_cons, List.length_nil]; omega, by rw [hps, parsR_step h9 hid4, map_step]⟩, S9⟩, ?_⟩
                exact (Sub.cons rfl (by first | rfl | exact congrArg (Value.int _) (by omega)) (Sub.cons rfl (by first | rfl | exact congrArg (Value.int _) (by omega)) (Sub.cons rfl (by first | rfl | exact congrArg (Value.int _) (by omega)) (Sub.cons rfl (by first | rfl | exact congrArg (Value.int _) (by omega)) (Sub.cons rfl rfl (Sub.cons rfl rfl (Sub.cons rfl rfl (Sub.nil _))))))))
          ·
            refine T_exit ?_
            refine hK10 _ _ ?_
            refine T_seq fun K19 hK19 => ?_
            have hbs2 := bsz s2
            have h9 : ¬ preP s2 (wParent ++ [32]) := by first | exact fun h => h40 ((par_iff s2).2 h) | exact fun h => by have h8 := par7 h; omega
            have hp2 : parsR (s.length + 1) s1 = some (ps, s2) := by rw [hps, parsR_end h9]; simp
            refine T_region ?_
            refine L_y (y_move rfl) rfl ?_
            refine L_o (o_call Tryz.func78 rfl rfl (rline s2 wAuthor w13 (by omega) (by decide)) rfl rfl ?_)
            rintro e25 w25 ⟨v25, rfl, l25, hu25⟩
            refine ⟨_, rfl, ?_⟩
            have S25 := S13.like l25
            obtain ⟨au, s3, f3, hvf3, h1f3, h0f3, hlf3, hmf3⟩ := lineV_b wAuthor s2
            rw [hvf3] at hu25
            subst hu25
            refine L_y (y_move rfl) rfl ?_
            refine L_y (y_extract rfl rfl) rfl ?_
            refine L_y (y_extract rfl rfl) rfl ?_
            refine L_y (y_extract rfl rfl) rfl ?_
            refine L_y (y_fieldA 33 Tryz.underlying83 rfl sz9 rfl rfl rfl) rfl ?_
            refine L_o (o_st1 S25 1 rfl rfl rfl rfl sz9 (by rw [cmf_sz]; omega) fun w26 S26 => ?_)
            have S27 := S26.blkc 1 rfl (st33 _ _)
            refine L_y (y_assign rfl) rfl ?_
            refine L_y (y_assign rfl) rfl ?_
            refine L_nil ?_
            refine hK19 _ _ ?_
            refine T_seq fun K20 hK20 => ?_
            refine T_seq fun K21 hK21 => ?_
            refine T_region ?_
            refine L_y (y_move rfl) rfl ?_
            refine L_y ((by first | exact y_notD rfl | exact y_not rfl)) rfl ?_
            refine L_nil ?_
            refine hK21 _ _ ?_
            refine T_condB rfl (fun h73 => ?_) (fun h73 => ?_)
            ·
              refine T_seq fun K22 hK22 => ?_
              refine T_region ?_
              refine L_y (y_build rfl (show _ = some (cmf zCm).toArray by kernel_rfl)) rfl ?_
              refine L_o (o_stW S27 0 rfl rfl rfl (by rw [cmf_sz]; exact sz83) (by first | (rw [cmf_sz]; done) | (rw [cmf_sz]; rfl)) (fun u hu => cmf_one _ u (by rw [List.toList_toArray] at hu; exact hu)) fun w28 S28 => ?_)
              refine L_y (y_assign rfl) rfl ?_
              refine L_nil ?_
              refine hK22 _ _ ?_
              refine T_ret ?_
              repeat (first | with_reducible refine up_then ?_ | with_reducible refine up_in ?_)
              refine retct rfl rfl rfl (S28.blk 0 rfl) Tryz.underlying83 rfl (by rw [cmf_sz]; exact sz83) ?_
              exact get_out S28.like0 (g3 hid hp2 (h0f3 (by simpa using h73)))
            ·
              have hau := h1f3 (by simpa using h73)
              refine T_skip ?_
              refine hK20 _ _ ?_
              refine T_seq fun K23 hK23 => ?_
              refine T_region ?_
              refine L_y (y_move rfl) rfl ?_
              refine L_o (o_call Tryz.func78 rfl rfl (rline s3 wTime w26 (by omega) (by decide)) rfl rfl ?_)
              rintro e29 w29 ⟨v29, rfl, l29, hu29⟩
              refine ⟨_, rfl, ?_⟩
              have S29 := S27.like l29
              obtain ⟨tn, s4, f4, hvf4, h1f4, h0f4, hlf4, hmf4⟩ := lineV_b wTime s3
              rw [hvf4] at hu29
              subst hu29
              refine L_y (y_move rfl) rfl ?_
              refine L_y (y_extract rfl rfl) rfl ?_
              refine L_y (y_extract rfl rfl) rfl ?_
              refine L_y (y_extract rfl rfl) rfl ?_
              refine L_y (y_assign rfl) rfl ?_
              refine L_y (y_assign rfl) rfl ?_
              refine L_y (y_assign rfl) rfl ?_
              refine L_nil ?_
              refine hK23 _ _ ?_
              refine T_seq fun K24 hK24 => ?_
              refine T_region ?_
              refine L_y (y_move rfl) rfl ?_
              refine L_o (o_call Tryz.func49 rfl rfl (rnumber ⟨tn.toArray⟩ w29) rfl rfl ?_)
              rintro e30 w30 ⟨v30, rfl, l30, hu30⟩
              refine ⟨_, rfl, ?_⟩
              have S30 := S29.like l30
              obtain ⟨va, vb, hnv, hnc⟩ := numR_b tn
              have hnv2 : numR (⟨tn.toArray⟩ : ByteArray).data.toList = .tuple #[.int .i64 va, .int .i64 vb] := hnv
              rw [hnv2] at hu30
              subst hu30
              refine L_y (y_move rfl) rfl ?_
              refine L_y (y_extract rfl rfl) rfl ?_
              refine L_y (y_extract rfl rfl) rfl ?_
              refine L_y (y_assign rfl) rfl ?_
              refine L_y (y_assign rfl) rfl ?_
              refine L_nil ?_
              refine hK24 _ _ ?_
              refine T_seq fun K25 hK25 => ?_
              refine T_seq fun K26 hK26 => ?_
              refine T_region ?_
              refine L_y (y_move rfl) rfl ?_
              refine L_y ((by first | exact y_notD rfl | exact y_not rfl)) rfl ?_
              refine L_y (y_move rfl) rfl ?_
              refine L_splitB 88 rfl (fun h88 => ?_) (fun h88 => ?_)
              ·
                refine L_gno rfl rfl rfl ?_
                refine L_gno rfl rfl rfl ?_
                refine L_y ((by first | exact y_pickT rfl rfl | exact y_pickF rfl rfl)) rfl ?_
                refine L_y (y_move rfl) rfl ?_
                refine L_gno rfl rfl rfl ?_
                refine L_gno rfl rfl rfl ?_
                refine L_y ((by first | exact y_pickT rfl rfl | exact y_pickF rfl rfl)) rfl ?_
                refine L_y (y_move rfl) rfl ?_
                refine L_gno rfl rfl rfl ?_
                refine L_gno rfl rfl rfl ?_
                refine L_gno rfl rfl rfl ?_
                refine L_y ((by first | exact y_pickT rfl rfl | exact y_pickF rfl rfl)) rfl ?_
                refine L_nil ?_
                refine hK26 _ _ ?_
                refine T_true rfl ?_
                refine T_seq fun K27 hK27 => ?_
                refine T_region ?_
                refine L_y (y_build rfl (show _ = some (cmf zCm).toArray by kernel_rfl)) rfl ?_
                refine L_o (o_stW S30 0 rfl rfl rfl (by rw [cmf_sz]; exact sz83) (by first | (rw [cmf_sz]; done) | (rw [cmf_sz]; rfl)) (fun u hu => cmf_one _ u (by rw [List.toList_toArray] at hu; exact hu)) fun w32 S32 => ?_)
                refine L_y (y_assign rfl) rfl ?_
                refine L_nil ?_
                refine hK27 _ _ ?_
                refine T_ret ?_
                repeat (first | with_reducible refine up_then ?_ | with_reducible refine up_in ?_)
                refine retct rfl rfl rfl (S32.blk 0 rfl) Tryz.underlying83 rfl (by rw [cmf_sz]; exact sz83) ?_
                first | exact get_out S32.like0 (g4 hid hp2 hau (numb_bad h1f4 h0f4 (.inl (by simpa using h88)))) | exact get_out S32.like0 (g4 hid hp2 hau (numb_bad h1f4 h0f4 (.inr (hnc.resolve_left (fun h => h92 h.1)).2))) | exact get_out S32.like0 (g5 hid hp2 hau (numb_good h1f4 (by simpa using h88) (hnc.resolve_right (fun h => h92 (by omega))).2.1) (by first | exact textR_n h100 | exact textR_e h96))
              ·
                refine L_gyes rfl rfl ?_
                refine L_y (y_move rfl) rfl ?_
                refine L_gyes rfl rfl ?_
                refine L_y (y_neq rfl rfl) rfl ?_
                refine L_y ((by first | exact y_pickT rfl rfl | exact y_pickF rfl rfl)) rfl ?_
                refine L_y (y_move rfl) rfl ?_
                refine L_split 92 rfl (fun h92 => ?_) (fun h92 => ?_)
                ·
                  refine L_gno rfl rfl rfl ?_
                  refine L_gno rfl rfl rfl ?_
                  refine L_y ((by first | exact y_pickT rfl rfl | exact y_pickF rfl rfl)) rfl ?_
                  refine L_y (y_move rfl) rfl ?_
                  refine L_gno rfl rfl rfl ?_
                  refine L_gno rfl rfl rfl ?_
                  refine L_gno rfl rfl rfl ?_
                  refine L_y ((by first | exact y_pickT rfl rfl | exact y_pickF rfl rfl)) rfl ?_
                  refine L_nil ?_
                  refine hK26 _ _ ?_
                  refine T_true rfl ?_
                  refine T_seq fun K28 hK28 => ?_
                  refine T_region ?_
                  refine L_y (y_build rfl (show _ = some (cmf zCm).toArray by kernel_rfl)) rfl ?_
                  refine L_o (o_stW S30 0 rfl rfl rfl (by rw [cmf_sz]; exact sz83) (by first | (rw [cmf_sz]; done) | (rw [cmf_sz]; rfl)) (fun u hu => cmf_one _ u (by rw [List.toList_toArray] at hu; exact hu)) fun w34 S34 => ?_)
                  refine L_y (y_assign rfl) rfl ?_
                  refine L_nil ?_
                  refine hK28 _ _ ?_
                  refine T_ret ?_
                  repeat (first | with_reducible refine up_then ?_ | with_reducible refine up_in ?_)
                  refine retct rfl rfl rfl (S34.blk 0 rfl) Tryz.underlying83 rfl (by rw [cmf_sz]; exact sz83) ?_
                  first | exact get_out S34.like0 (g4 hid hp2 hau (numb_bad h1f4 h0f4 (.inl (by simpa using h88)))) | exact get_out S34.like0 (g4 hid hp2 hau (numb_bad h1f4 h0f4 (.inr (hnc.resolve_left (fun h => h92 h.1)).2))) | exact get_out S34.like0 (g5 hid hp2 hau (numb_good h1f4 (by simpa using h88) (hnc.resolve_right (fun h => h92 (by omega))).2.1) (by first | exact textR_n h100 | exact textR_e h96))
                ·
                  refine L_gyes rfl rfl ?_
                  refine L_y (y_move rfl) rfl ?_
                  refine L_gyes rfl rfl ?_
                  refine L_y (y_seql rfl rfl) rfl ?_
                  refine L_y ((by first | exact y_pickT rfl rfl | exact y_pickF rfl rfl)) rfl ?_
                  refine L_y (y_move rfl) rfl ?_
                  refine L_split 96 rfl (fun h96 => ?_) (fun h96 => ?_)
                  ·
                    refine L_gno rfl rfl rfl ?_
                    refine L_gno rfl rfl rfl ?_
                    refine L_gno rfl rfl rfl ?_
                    refine L_y ((by first | exact y_pickT rfl rfl | exact y_pickF rfl rfl)) rfl ?_
                    refine L_nil ?_
                    refine hK26 _ _ ?_
                    refine T_true rfl ?_
                    refine T_seq fun K29 hK29 => ?_
                    refine T_region ?_
                    refine L_y (y_build rfl (show _ = some (cmf zCm).toArray by kernel_rfl)) rfl ?_
                    refine L_o (o_stW S30 0 rfl rfl rfl (by rw [cmf_sz]; exact sz83) (by first | (rw [cmf_sz]; done) | (rw [cmf_sz]; rfl)) (fun u hu => cmf_one _ u (by rw [List.toList_toArray] at hu; exact hu)) fun w36 S36 => ?_)
                    refine L_y (y_assign rfl) rfl ?_
                    refine L_nil ?_
                    refine hK29 _ _ ?_
                    refine T_ret ?_
                    repeat (first | with_reducible refine up_then ?_ | with_reducible refine up_in ?_)
                    refine retct rfl rfl rfl (S36.blk 0 rfl) Tryz.underlying83 rfl (by rw [cmf_sz]; exact sz83) ?_
                    first | exact get_out S36.like0 (g4 hid hp2 hau (numb_bad h1f4 h0f4 (.inl (by simpa using h88)))) | exact get_out S36.like0 (g4 hid hp2 hau (numb_bad h1f4 h0f4 (.inr (hnc.resolve_left (fun h => h92 h.1)).2))) | exact get_out S36.like0 (g5 hid hp2 hau (numb_good h1f4 (by simpa using h88) (hnc.resolve_right (fun h => h92 (by omega))).2.1) (by first | exact textR_n h100 | exact textR_e h96))
                  ·
                    have h0s : 0 < s4.length := Nat.pos_of_ne_zero (fun e => h96 (by rw [List.eq_nil_of_length_eq_zero e]))
                    have hbs4 := bsz s4
                    refine L_gyes rfl rfl ?_
                    refine L_y (y_move rfl) rfl ?_
                    refine L_gyes rfl rfl ?_
                    refine L_y (y_idxS Tryz.underlying9 rfl rfl inferInstance (by omega)) rfl ?_
                    refine L_gyes rfl rfl ?_
                    refine L_y (y_neq rfl rfl) rfl ?_
                    refine L_y ((by first | exact y_pickT rfl rfl | exact y_pickF rfl rfl)) rfl ?_
                    refine L_nil ?_
                    refine hK26 _ _ ?_
                    refine T_cond rfl (fun h100 => ?_) (fun h100 => ?_)
                    ·
                      refine T_seq fun K30 hK30 => ?_
                      refine T_region ?_
                      refine L_y (y_build rfl (show _ = some (cmf zCm).toArray by kernel_rfl)) rfl ?_
                      refine L_o (o_stW S30 0 rfl rfl rfl (by rw [cmf_sz]; exact sz83) (by first | (rw [cmf_sz]; done) | (rw [cmf_sz]; rfl)) (fun u hu => cmf_one _ u (by rw [List.toList_toArray] at hu; exact hu)) fun w37 S37 => ?_)
                      refine L_y (y_assign rfl) rfl ?_
                      refine L_nil ?_
                      refine hK30 _ _ ?_
                      refine T_ret ?_
                      repeat (first | with_reducible refine up_then ?_ | with_reducible refine up_in ?_)
                      refine retct rfl rfl rfl (S37.blk 0 rfl) Tryz.underlying83 rfl (by rw [cmf_sz]; exact sz83) ?_
                      first | exact get_out S37.like0 (g4 hid hp2 hau (numb_bad h1f4 h0f4 (.inl (by simpa using h88)))) | exact get_out S37.like0 (g4 hid hp2 hau (numb_bad h1f4 h0f4 (.inr (hnc.resolve_left (fun h => h92 h.1)).2))) | exact get_out S37.like0 (g5 hid hp2 hau (numb_good h1f4 (by simpa using h88) (hnc.resolve_right (fun h => h92 (by omega))).2.1) (by first | exact textR_n h100 | exact textR_e h96))
                    ·
                      subst hn
                      obtain ⟨hvb, hok, rfl⟩ := hnc.resolve_right (fun h => h92 (by omega))
                      have hpx : preP s4 [10] := (pre1 s4).2 ⟨Nat.pos_of_ne_zero (fun e => h96 (by rw [List.eq_nil_of_length_eq_zero e])), Classical.byContradiction fun e => h100 e⟩
                      have h0s : 0 < s4.length := ((pre1 s4).1 hpx).1
                      have hg : getR s = some (⟨t, ps, au, numV tn, s4.drop 1⟩ : CmL) := g6 hid hp2 hau (numb_good h1f4 (by simpa using h88) hok) (by unfold textR; exact if_pos hpx)
                      refine T_skip ?_
                      refine hK25 _ _ ?_
                      refine T_seq fun K31 hK31 => ?_
                      refine T_region ?_
                      refine L_y (y_move rfl) rfl ?_
                      refine L_y (y_fieldA 34 Tryz.underlying83 rfl sz3 rfl rfl rfl) rfl ?_
                      refine L_o (o_st1 S30 1 rfl rfl rfl rfl sz3 (by rw [cmf_sz]; omega) fun w38 S38 => ?_)
                      have S39 := S38.blkc 1 rfl (st34 _ _)
                      refine L_nil ?_
                      refine hK31 _ _ ?_
                      refine T_seq fun K32 hK32 => ?_
                      refine T_region ?_
                      refine L_y (y_move rfl) rfl ?_
                      refine L_y (y_ssliceL (l := 1) Tryz.underlying9 rfl rfl (Nt.mk (by omega)) (by omega)) rfl ?_
                      rw [ext_drop]
                      refine L_y (y_fieldA 35 Tryz.underlying83 rfl sz9 rfl rfl rfl) rfl ?_
                      refine L_o (o_st1 S39 1 rfl rfl rfl rfl sz9 (by rw [cmf_sz]; omega) fun w40 S40 => ?_)
                      have S41 := S40.blkc 1 rfl (st35 _ _)
                      refine L_nil ?_
                      refine hK32 _ _ ?_
                      refine T_seq fun K33 hK33 => ?_
                      refine T_region ?_
                      refine L_y (y_ldW Tryz.underlying83 rfl sz83 rfl (S41.blk 1 rfl) (cm_whole _)) rfl ?_
                      refine L_o (o_call Tryz.func80 rfl rfl (rcheck (cmOf ⟨t, ps, au, numV tn, s4.drop 1⟩ A ps.length c) w40 (S41.row 3 rfl)) rfl rfl ?_)
                      rintro e42 w42 ⟨v42, rfl, l42, rfl⟩
                      refine ⟨_, rfl, ?_⟩
                      have S42 := S41.like l42
                      refine L_y (y_assign rfl) rfl ?_
                      refine L_nil ?_
                      refine hK33 _ _ ?_
                      refine T_seq fun K34 hK34 => ?_
                      refine T_seq fun K35 hK35 => ?_
                      refine T_region ?_
                      refine L_y (y_move rfl) rfl ?_
                      refine L_y (y_neq rfl rfl) rfl ?_
                      refine L_nil ?_
                      refine hK35 _ _ ?_
                      refine T_cond rfl (fun h110 => ?_) (fun h110 => ?_)
                      ·
                        refine T_seq fun K36 hK36 => ?_
                        refine T_region ?_
                        refine L_y (y_build rfl (show _ = some (cmf zCm).toArray by kernel_rfl)) rfl ?_
                        refine L_y (y_move rfl) rfl ?_
                        refine L_o (o_stW S42 0 rfl rfl rfl (by rw [cmf_sz]; exact sz83) (by first | (rw [cmf_sz]; done) | (rw [cmf_sz]; rfl)) (fun u hu => cmf_one _ u (by rw [List.toList_toArray] at hu; exact hu)) fun w43 S43 => ?_)
                        refine L_y (y_assign rfl) rfl ?_
                        refine L_nil ?_
                        refine hK36 _ _ ?_
                        refine T_ret ?_
                        repeat (first | with_reducible refine up_then ?_ | with_reducible refine up_in ?_)
                        refine retct rfl rfl rfl (S43.blk 0 rfl) Tryz.underlying83 rfl (by rw [cmf_sz]; exact sz83) ?_
                        have hgo := go_some hg
                        have h0 : ¬ chk (cmO (⟨t, ps, au, numV tn, s4.drop 1⟩ : CmL)) = 0 := fun e => h110 e
                        have hv : gval s = zL := by rw [hgo.2, if_neg h0]
                        rw [hv, hgo.1]
                        refine ⟨_, rfl, S43.like0, none, 0, fr_nil _ _ _, ?_⟩
                        exact congrArg (fun x => Value.tuple #[.agg (cmf x).toArray, _]) zL_cm.symm
                      ·
                        refine T_skip ?_
                        refine hK34 _ _ ?_
                        refine T_seq fun K37 hK37 => ?_
                        refine T_region ?_
                        refine L_y (y_ldW Tryz.underlying83 rfl sz83 rfl (S42.blk 1 rfl) (cm_whole _)) rfl ?_
                        refine L_o (o_stW S42 0 rfl rfl rfl (by rw [cmf_sz]; exact sz83) (by first | (rw [cmf_sz]; done) | (rw [cmf_sz]; rfl)) (fun u hu => cmf_one _ u (by rw [List.toList_toArray] at hu; exact hu)) fun w44 S44 => ?_)
                        refine L_y (y_assign rfl) rfl ?_
                        refine L_nil ?_
                        refine hK37 _ _ ?_
                        refine T_ret ?_
                        repeat (first | with_reducible refine up_then ?_ | with_reducible refine up_in ?_)
                        refine retct rfl rfl rfl (S44.blk 0 rfl) Tryz.underlying83 rfl (by rw [cmf_sz]; exact sz83) ?_
                        have hgo := go_some hg
                        have h0 : chk (cmO (⟨t, ps, au, numV tn, s4.drop 1⟩ : CmL)) = 0 := Classical.byContradiction fun e => h110 e
                        have hv : gval s = (⟨t, ps, au, numV tn, s4.drop 1⟩ : CmL) := by rw [hgo.2, if_pos h0]
                        rw [hv, hgo.1, h0]
                        exact ⟨_, rfl, S44.like0, A, c, Fr.of_own (S44.own 3 rfl), rfl⟩
        ·
          refine L_gno rfl rfl rfl ?_
          refine L_gno rfl rfl rfl ?_
          refine L_gno rfl rfl rfl ?_
          refine L_y ((by first | exact y_pickT rfl rfl | exact y_pickF rfl rfl)) rfl ?_
          refine L_nil ?_
          refine hK12 _ _ ?_
          refine T_false rfl ?_
          refine T_exit ?_
          refine hK10 _ _ ?_
          refine T_seq fun K38 hK38 => ?_
          have hbs2 := bsz s2
          have h9 : ¬ preP s2 (wParent ++ [32]) := by first | exact fun h => h40 ((par_iff s2).2 h) | exact fun h => by have h8 := par7 h; omega
          have hp2 : parsR (s.length + 1) s1 = some (ps, s2) := by rw [hps, parsR_end h9]; simp
          refine T_region ?_
          refine L_y (y_move rfl) rfl ?_
          refine L_o (o_call Tryz.func78 rfl rfl (rline s2 wAuthor w13 (by omega) (by decide)) rfl rfl ?_)
          rintro e45 w45 ⟨v45, rfl, l45, hu45⟩
          refine ⟨_, rfl, ?_⟩
          have S45 := S13.like l45
          obtain ⟨au, s3, f3, hvf3, h1f3, h0f3, hlf3, hmf3⟩ := lineV_b wAuthor s2
          rw [hvf3] at hu45
          subst hu45
          refine L_y (y_move rfl) rfl ?_
          refine L_y (y_extract rfl rfl) rfl ?_
          refine L_y (y_extract rfl rfl) rfl ?_
          refine L_y (y_extract rfl rfl) rfl ?_
          refine L_y (y_fieldA 33 Tryz.underlying83 rfl sz9 rfl rfl rfl) rfl ?_
          refine L_o (o_st1 S45 1 rfl rfl rfl rfl sz9 (by rw [cmf_sz]; omega) fun w46 S46 => ?_)
          have S47 := S46.blkc 1 rfl (st33 _ _)
          refine L_y (y_assign rfl) rfl ?_
          refine L_y (y_assign rfl) rfl ?_
          refine L_nil ?_
          refine hK38 _ _ ?_
          refine T_seq fun K39 hK39 => ?_
          refine T_seq fun K40 hK40 => ?_
          refine T_region ?_
          refine L_y (y_move rfl) rfl ?_
          refine L_y ((by first | exact y_notD rfl | exact y_not rfl)) rfl ?_
          refine L_nil ?_
          refine hK40 _ _ ?_
          refine T_condB rfl (fun h73 => ?_) (fun h73 => ?_)
          ·
            refine T_seq fun K41 hK41 => ?_
            refine T_region ?_
            refine L_y (y_build rfl (show _ = some (cmf zCm).toArray by kernel_rfl)) rfl ?_
            refine L_o (o_stW S47 0 rfl rfl rfl (by rw [cmf_sz]; exact sz83) (by first | (rw [cmf_sz]; done) | (rw [cmf_sz]; rfl)) (fun u hu => cmf_one _ u (by rw [List.toList_toArray] at hu; exact hu)) fun w48 S48 => ?_)
            refine L_y (y_assign rfl) rfl ?_
            refine L_nil ?_
            refine hK41 _ _ ?_
            refine T_ret ?_
            repeat (first | with_reducible refine up_then ?_ | with_reducible refine up_in ?_)
            refine retct rfl rfl rfl (S48.blk 0 rfl) Tryz.underlying83 rfl (by rw [cmf_sz]; exact sz83) ?_
            exact get_out S48.like0 (g3 hid hp2 (h0f3 (by simpa using h73)))
          ·
            have hau := h1f3 (by simpa using h73)
            refine T_skip ?_
            refine hK39 _ _ ?_
            refine T_seq fun K42 hK42 => ?_
            refine T_region ?_
            refine L_y (y_move rfl) rfl ?_
            refine L_o (o_call Tryz.func78 rfl rfl (rline s3 wTime w46 (by omega) (by decide)) rfl rfl ?_)
            rintro e49 w49 ⟨v49, rfl, l49, hu49⟩
            refine ⟨_, rfl, ?_⟩
            have S49 := S47.like l49
            obtain ⟨tn, s4, f4, hvf4, h1f4, h0f4, hlf4, hmf4⟩ := lineV_b wTime s3
            rw [hvf4] at hu49
            subst hu49
            refine L_y (y_move rfl) rfl ?_
            refine L_y (y_extract rfl rfl) rfl ?_
            refine L_y (y_extract rfl rfl) rfl ?_
            refine L_y (y_extract rfl rfl) rfl ?_
            refine L_y (y_assign rfl) rfl ?_
            refine L_y (y_assign rfl) rfl ?_
            refine L_y (y_assign rfl) rfl ?_
            refine L_nil ?_
            refine hK42 _ _ ?_
            refine T_seq fun K43 hK43 => ?_
            refine T_region ?_
            refine L_y (y_move rfl) rfl ?_
            refine L_o (o_call Tryz.func49 rfl rfl (rnumber ⟨tn.toArray⟩ w49) rfl rfl ?_)
            rintro e50 w50 ⟨v50, rfl, l50, hu50⟩
            refine ⟨_, rfl, ?_⟩
            have S50 := S49.like l50
            obtain ⟨va, vb, hnv, hnc⟩ := numR_b tn
            have hnv2 : numR (⟨tn.toArray⟩ : ByteArray).data.toList = .tuple #[.int .i64 va, .int .i64 vb] := hnv
            rw [hnv2] at hu50
            subst hu50
            refine L_y (y_move rfl) rfl ?_
            refine L_y (y_extract rfl rfl) rfl ?_
            refine L_y (y_extract rfl rfl) rfl ?_
            refine L_y (y_assign rfl) rfl ?_
            refine L_y (y_assign rfl) rfl ?_
            refine L_nil ?_
            refine hK43 _ _ ?_
            refine T_seq fun K44 hK44 => ?_
            refine T_seq fun K45 hK45 => ?_
            refine T_region ?_
            refine L_y (y_move rfl) rfl ?_
            refine L_y ((by first | exact y_notD rfl | exact y_not rfl)) rfl ?_
            refine L_y (y_move rfl) rfl ?_
            refine L_splitB 88 rfl (fun h88 => ?_) (fun h88 => ?_)
            ·
              refine L_gno rfl rfl rfl ?_
              refine L_gno rfl rfl rfl ?_
              refine L_y ((by first | exact y_pickT rfl rfl | exact y_pickF rfl rfl)) rfl ?_
              refine L_y (y_move rfl) rfl ?_
              refine L_gno rfl rfl rfl ?_
              refine L_gno rfl rfl rfl ?_
              refine L_y ((by first | exact y_pickT rfl rfl | exact y_pickF rfl rfl)) rfl ?_
              refine L_y (y_move rfl) rfl ?_
              refine L_gno rfl rfl rfl ?_
              refine L_gno rfl rfl rfl ?_
              refine L_gno rfl rfl rfl ?_
              refine L_y ((by first | exact y_pickT rfl rfl | exact y_pickF rfl rfl)) rfl ?_
              refine L_nil ?_
              refine hK45 _ _ ?_
              refine T_true rfl ?_
              refine T_seq fun K46 hK46 => ?_
              refine T_region ?_
              refine L_y (y_build rfl (show _ = some (cmf zCm).toArray by kernel_rfl)) rfl ?_
              refine L_o (o_stW S50 0 rfl rfl rfl (by rw [cmf_sz]; exact sz83) (by first | (rw [cmf_sz]; done) | (rw [cmf_sz]; rfl)) (fun u hu => cmf_one _ u (by rw [List.toList_toArray] at hu; exact hu)) fun w52 S52 => ?_)
              refine L_y (y_assign rfl) rfl ?_
              refine L_nil ?_
              refine hK46 _ _ ?_
              refine T_ret ?_
              repeat (first | with_reducible refine up_then ?_ | with_reducible refine up_in ?_)
              refine retct rfl rfl rfl (S52.blk 0 rfl) Tryz.underlying83 rfl (by rw [cmf_sz]; exact sz83) ?_
              first | exact get_out S52.like0 (g4 hid hp2 hau (numb_bad h1f4 h0f4 (.inl (by simpa using h88)))) | exact get_out S52.like0 (g4 hid hp2 hau (numb_bad h1f4 h0f4 (.inr (hnc.resolve_left (fun h => h92 h.1)).2))) | exact get_out S52.like0 (g5 hid hp2 hau (numb_good h1f4 (by simpa using h88) (hnc.resolve_right (fun h => h92 (by omega))).2.1) (by first | exact textR_n h100 | exact textR_e h96))
            ·
              refine L_gyes rfl rfl ?_
              refine L_y (y_move rfl) rfl ?_
              refine L_gyes rfl rfl ?_
              refine L_y (y_neq rfl rfl) rfl ?_
              refine L_y ((by first | exact y_pickT rfl rfl | exact y_pickF rfl rfl)) rfl ?_
              refine L_y (y_move rfl) rfl ?_
              refine L_split 92 rfl (fun h92 => ?_) (fun h92 => ?_)
              ·
                refine L_gno rfl rfl rfl ?_
                refine L_gno rfl rfl rfl ?_
                refine L_y ((by first | exact y_pickT rfl rfl | exact y_pickF rfl rfl)) rfl ?_
                refine L_y (y_move rfl) rfl ?_
                refine L_gno rfl rfl rfl ?_
                refine L_gno rfl rfl rfl ?_
                refine L_gno rfl rfl rfl ?_
                refine L_y ((by first | exact y_pickT rfl rfl | exact y_pickF rfl rfl)) rfl ?_
                refine L_nil ?_
                refine hK45 _ _ ?_
                refine T_true rfl ?_
                refine T_seq fun K47 hK47 => ?_
                refine T_region ?_
                refine L_y (y_build rfl (show _ = some (cmf zCm).toArray by kernel_rfl)) rfl ?_
                refine L_o (o_stW S50 0 rfl rfl rfl (by rw [cmf_sz]; exact sz83) (by first | (rw [cmf_sz]; done) | (rw [cmf_sz]; rfl)) (fun u hu => cmf_one _ u (by rw [List.toList_toArray] at hu; exact hu)) fun w54 S54 => ?_)
                refine L_y (y_assign rfl) rfl ?_
                refine L_nil ?_
                refine hK47 _ _ ?_
                refine T_ret ?_
                repeat (first | with_reducible refine up_then ?_ | with_reducible refine up_in ?_)
                refine retct rfl rfl rfl (S54.blk 0 rfl) Tryz.underlying83 rfl (by rw [cmf_sz]; exact sz83) ?_
                first | exact get_out S54.like0 (g4 hid hp2 hau (numb_bad h1f4 h0f4 (.inl (by simpa using h88)))) | exact get_out S54.like0 (g4 hid hp2 hau (numb_bad h1f4 h0f4 (.inr (hnc.resolve_left (fun h => h92 h.1)).2))) | exact get_out S54.like0 (g5 hid hp2 hau (numb_good h1f4 (by simpa using h88) (hnc.resolve_right (fun h => h92 (by omega))).2.1) (by first | exact textR_n h100 | exact textR_e h96))
              ·
                refine L_gyes rfl rfl ?_
                refine L_y (y_move rfl) rfl ?_
                refine L_gyes rfl rfl ?_
                refine L_y (y_seql rfl rfl) rfl ?_
                refine L_y ((by first | exact y_pickT rfl rfl | exact y_pickF rfl rfl)) rfl ?_
                refine L_y (y_move rfl) rfl ?_
                refine L_split 96 rfl (fun h96 => ?_) (fun h96 => ?_)
                ·
                  refine L_gno rfl rfl rfl ?_
                  refine L_gno rfl rfl rfl ?_
                  refine L_gno rfl rfl rfl ?_
                  refine L_y ((by first | exact y_pickT rfl rfl | exact y_pickF rfl rfl)) rfl ?_
                  refine L_nil ?_
                  refine hK45 _ _ ?_
                  refine T_true rfl ?_
                  refine T_seq fun K48 hK48 => ?_
                  refine T_region ?_
                  refine L_y (y_build rfl (show _ = some (cmf zCm).toArray by kernel_rfl)) rfl ?_
                  refine L_o (o_stW S50 0 rfl rfl rfl (by rw [cmf_sz]; exact sz83) (by first | (rw [cmf_sz]; done) | (rw [cmf_sz]; rfl)) (fun u hu => cmf_one _ u (by rw [List.toList_toArray] at hu; exact hu)) fun w56 S56 => ?_)
                  refine L_y (y_assign rfl) rfl ?_
                  refine L_nil ?_
                  refine hK48 _ _ ?_
                  refine T_ret ?_
                  repeat (first | with_reducible refine up_then ?_ | with_reducible refine up_in ?_)
                  refine retct rfl rfl rfl (S56.blk 0 rfl) Tryz.underlying83 rfl (by rw [cmf_sz]; exact sz83) ?_
                  first | exact get_out S56.like0 (g4 hid hp2 hau (numb_bad h1f4 h0f4 (.inl (by simpa using h88)))) | exact get_out S56.like0 (g4 hid hp2 hau (numb_bad h1f4 h0f4 (.inr (hnc.resolve_left (fun h => h92 h.1)).2))) | exact get_out S56.like0 (g5 hid hp2 hau (numb_good h1f4 (by simpa using h88) (hnc.resolve_right (fun h => h92 (by omega))).2.1) (by first | exact textR_n h100 | exact textR_e h96))
                ·
                  have h0s : 0 < s4.length := Nat.pos_of_ne_zero (fun e => h96 (by rw [List.eq_nil_of_length_eq_zero e]))
                  have hbs4 := bsz s4
                  refine L_gyes rfl rfl ?_
                  refine L_y (y_move rfl) rfl ?_
                  refine L_gyes rfl rfl ?_
                  refine L_y (y_idxS Tryz.underlying9 rfl rfl inferInstance (by omega)) rfl ?_
                  refine L_gyes rfl rfl ?_
                  refine L_y (y_neq rfl rfl) rfl ?_
                  refine L_y ((by first | exact y_pickT rfl rfl | exact y_pickF rfl rfl)) rfl ?_
                  refine L_nil ?_
                  refine hK45 _ _ ?_
                  refine T_cond rfl (fun h100 => ?_) (fun h100 => ?_)
                  ·
                    refine T_seq fun K49 hK49 => ?_
                    refine T_region ?_
                    refine L_y (y_build rfl (show _ = some (cmf zCm).toArray by kernel_rfl)) rfl ?_
                    refine L_o (o_stW S50 0 rfl rfl rfl (by rw [cmf_sz]; exact sz83) (by first | (rw [cmf_sz]; done) | (rw [cmf_sz]; rfl)) (fun u hu => cmf_one _ u (by rw [List.toList_toArray] at hu; exact hu)) fun w57 S57 => ?_)
                    refine L_y (y_assign rfl) rfl ?_
                    refine L_nil ?_
                    refine hK49 _ _ ?_
                    refine T_ret ?_
                    repeat (first | with_reducible refine up_then ?_ | with_reducible refine up_in ?_)
                    refine retct rfl rfl rfl (S57.blk 0 rfl) Tryz.underlying83 rfl (by rw [cmf_sz]; exact sz83) ?_
                    first | exact get_out S57.like0 (g4 hid hp2 hau (numb_bad h1f4 h0f4 (.inl (by simpa using h88)))) | exact get_out S57.like0 (g4 hid hp2 hau (numb_bad h1f4 h0f4 (.inr (hnc.resolve_left (fun h => h92 h.1)).2))) | exact get_out S57.like0 (g5 hid hp2 hau (numb_good h1f4 (by simpa using h88) (hnc.resolve_right (fun h => h92 (by omega))).2.1) (by first | exact textR_n h100 | exact textR_e h96))
                  ·
                    subst hn
                    obtain ⟨hvb, hok, rfl⟩ := hnc.resolve_right (fun h => h92 (by omega))
                    have hpx : preP s4 [10] := (pre1 s4).2 ⟨Nat.pos_of_ne_zero (fun e => h96 (by rw [List.eq_nil_of_length_eq_zero e])), Classical.byContradiction fun e => h100 e⟩
                    have h0s : 0 < s4.length := ((pre1 s4).1 hpx).1
                    have hg : getR s = some (⟨t, ps, au, numV tn, s4.drop 1⟩ : CmL) := g6 hid hp2 hau (numb_good h1f4 (by simpa using h88) hok) (by unfold textR; exact if_pos hpx)
                    refine T_skip ?_
                    refine hK44 _ _ ?_
                    refine T_seq fun K50 hK50 => ?_
                    refine T_region ?_
                    refine L_y (y_move rfl) rfl ?_
                    refine L_y (y_fieldA 34 Tryz.underlying83 rfl sz3 rfl rfl rfl) rfl ?_
                    refine L_o (o_st1 S50 1 rfl rfl rfl rfl sz3 (by rw [cmf_sz]; omega) fun w58 S58 => ?_)
                    have S59 := S58.blkc 1 rfl (st34 _ _)
                    refine L_nil ?_
                    refine hK50 _ _ ?_
                    refine T_seq fun K51 hK51 => ?_
                    refine T_region ?_
                    refine L_y (y_move rfl) rfl ?_
                    refine L_y (y_ssliceL (l := 1) Tryz.underlying9 rfl rfl (Nt.mk (by omega)) (by omega)) rfl ?_
                    rw [ext_drop]
                    refine L_y (y_fieldA 35 Tryz.underlying83 rfl sz9 rfl rfl rfl) rfl ?_
                    refine L_o (o_st1 S59 1 rfl rfl rfl rfl sz9 (by rw [cmf_sz]; omega) fun w60 S60 => ?_)
                    have S61 := S60.blkc 1 rfl (st35 _ _)
                    refine L_nil ?_
                    refine hK51 _ _ ?_
                    refine T_seq fun K52 hK52 => ?_
                    refine T_region ?_
                    refine L_y (y_ldW Tryz.underlying83 rfl sz83 rfl (S61.blk 1 rfl) (cm_whole _)) rfl ?_
                    refine L_o (o_call Tryz.func80 rfl rfl (rcheck (cmOf ⟨t, ps, au, numV tn, s4.drop 1⟩ A ps.length c) w60 (S61.row 3 rfl)) rfl rfl ?_)
                    rintro e62 w62 ⟨v62, rfl, l62, rfl⟩
                    refine ⟨_, rfl, ?_⟩
                    have S62 := S61.like l62
                    refine L_y (y_assign rfl) rfl ?_
                    refine L_nil ?_
                    refine hK52 _ _ ?_
                    refine T_seq fun K53 hK53 => ?_
                    refine T_seq fun K54 hK54 => ?_
                    refine T_region ?_
                    refine L_y (y_move rfl) rfl ?_
                    refine L_y (y_neq rfl rfl) rfl ?_
                    refine L_nil ?_
                    refine hK54 _ _ ?_
                    refine T_cond rfl (fun h110 => ?_) (fun h110 => ?_)
                    ·
                      refine T_seq fun K55 hK55 => ?_
                      refine T_region ?_
                      refine L_y (y_build rfl (show _ = some (cmf zCm).toArray by kernel_rfl)) rfl ?_
                      refine L_y (y_move rfl) rfl ?_
                      refine L_o (o_stW S62 0 rfl rfl rfl (by rw [cmf_sz]; exact sz83) (by first | (rw [cmf_sz]; done) | (rw [cmf_sz]; rfl)) (fun u hu => cmf_one _ u (by rw [List.toList_toArray] at hu; exact hu)) fun w63 S63 => ?_)
                      refine L_y (y_assign rfl) rfl ?_
                      refine L_nil ?_
                      refine hK55 _ _ ?_
                      refine T_ret ?_
                      repeat (first | with_reducible refine up_then ?_ | with_reducible refine up_in ?_)
                      refine retct rfl rfl rfl (S63.blk 0 rfl) Tryz.underlying83 rfl (by rw [cmf_sz]; exact sz83) ?_
                      have hgo := go_some hg
                      have h0 : ¬ chk (cmO (⟨t, ps, au, numV tn, s4.drop 1⟩ : CmL)) = 0 := fun e => h110 e
                      have hv : gval s = zL := by rw [hgo.2, if_neg h0]
                      rw [hv, hgo.1]
                      refine ⟨_, rfl, S63.like0, none, 0, fr_nil _ _ _, ?_⟩
                      exact congrArg (fun x => Value.tuple #[.agg (cmf x).toArray, _]) zL_cm.symm
                    ·
                      refine T_skip ?_
                      refine hK53 _ _ ?_
                      refine T_seq fun K56 hK56 => ?_
                      refine T_region ?_
                      refine L_y (y_ldW Tryz.underlying83 rfl sz83 rfl (S62.blk 1 rfl) (cm_whole _)) rfl ?_
                      refine L_o (o_stW S62 0 rfl rfl rfl (by rw [cmf_sz]; exact sz83) (by first | (rw [cmf_sz]; done) | (rw [cmf_sz]; rfl)) (fun u hu => cmf_one _ u (by rw [List.toList_toArray] at hu; exact hu)) fun w64 S64 => ?_)
                      refine L_y (y_assign rfl) rfl ?_
                      refine L_nil ?_
                      refine hK56 _ _ ?_
                      refine T_ret ?_
                      repeat (first | with_reducible refine up_then ?_ | with_reducible refine up_in ?_)
                      refine retct rfl rfl rfl (S64.blk 0 rfl) Tryz.underlying83 rfl (by rw [cmf_sz]; exact sz83) ?_
                      have hgo := go_some hg
                      have h0 : chk (cmO (⟨t, ps, au, numV tn, s4.drop 1⟩ : CmL)) = 0 := Classical.byContradiction fun e => h110 e
                      have hv : gval s = (⟨t, ps, au, numV tn, s4.drop 1⟩ : CmL) := by rw [hgo.2, if_pos h0]
                      rw [hv, hgo.1, h0]
                      exact ⟨_, rfl, S64.like0, A, c, Fr.of_own (S64.own 3 rfl), rfl⟩


set_option maxRecDepth 100000 in
theorem rgetMB (B : Option Addr) (m d : Nat) (s : List UInt8) (w0 : World) (hb : Rs w0 1 B m d (bL s)) (hl : s.length ≤ 90000) :
    Calls Tryz.prog 43 #[.slice B m d] w0 fun e w' => ∃ u, e = .returned u ∧ Like w0 w' ∧ u = .tuple #[.agg (mkf (mkOf (mval s))).toArray, .int .i64 (mcode s)] := by
  refine enter1 (env := [(0, .slice B m d)]) [.slice B m d] Tryz.func43 rfl Tryz.ntmps43 rfl rfl ?_
  have S0 := St.start w0 noM
  refine T_seq fun K1 hK1 => ?_
  refine T_region ?_
  refine L_o (o_alloc zz87 S0 rfl fun b1 w1 hb1 S1 => ?_)
  refine L_y (y_assign rfl) rfl ?_
  refine L_nil ?_
  refine hK1 _ _ ?_
  refine T_seq fun K2 hK2 => ?_
  refine T_region ?_
  refine L_o (o_alloc zz87 S1 rfl fun b2 w2 hb2 S2 => ?_)
  have S3 : Zx.St w0 noM [blk b1 87 (mkf zMk).toArray, blk b2 87 (mkf zMk).toArray] w2 := S2.cast (by kernel_rfl)
  refine L_nil ?_
  refine hK2 _ _ ?_
  refine T_seq fun K3 hK3 => ?_
  refine T_region ?_
  refine L_y (y_move rfl) rfl ?_
  refine L_y (y_bstr Tryz.underlying22 Tryz.underlying5 Tryz.underlying9 rfl (by first | exact S3.rd hb)) rfl ?_
  refine L_o (o_call Tryz.func78 rfl rfl (rline s wObject w2 (by omega) (by decide)) rfl rfl ?_)
  rintro e4 w4 ⟨v4, rfl, l4, hu4⟩
  refine ⟨_, rfl, ?_⟩
  have S4 := S3.like l4
  obtain ⟨ta, s1, f1, hvf1, h1f1, h0f1, hlf1, hmf1⟩ := lineV_b wObject s
  rw [hvf1] at hu4
  subst hu4
  refine L_y (y_move rfl) rfl ?_
  refine L_y (y_extract rfl rfl) rfl ?_
  refine L_y (y_extract rfl rfl) rfl ?_
  refine L_y (y_extract rfl rfl) rfl ?_
  refine L_y (y_assign rfl) rfl ?_
  refine L_y (y_assign rfl) rfl ?_
  refine L_y (y_assign rfl) rfl ?_
  refine L_nil ?_
  refine hK3 _ _ ?_
  refine T_seq fun K4 hK4 => ?_
  refine T_region ?_
  refine L_y (y_move rfl) rfl ?_
  refine L_o (o_call Tryz.func79 rfl rfl (rreadN ta w4) rfl rfl ?_)
  rintro e5 w5 ⟨v5, rfl, l5, o, ho, rfl⟩
  refine ⟨_, rfl, ?_⟩
  have S5 := S4.like l5
  refine L_y (y_move rfl) rfl ?_
  refine L_y (y_extract rfl rfl) rfl ?_
  refine L_y (y_extract rfl rfl) rfl ?_
  refine L_o (o_alloc zz41 S5 rfl fun b6 w6 hb6 S6 => ?_)
  refine L_o (o_stW S6 2 rfl rfl rfl (by rw [List.size_toArray, idf_len]; exact sz41) (by rw [List.size_toArray, idf_len]; simp [Value.cells, idf_len]) (fun u hu => bL_one _ u (by rw [List.toList_toArray] at hu; exact hu)) fun w7 S7 => ?_)
  refine L_y (y_assign rfl) rfl ?_
  refine L_nil ?_
  refine hK4 _ _ ?_
  refine T_seq fun K5 hK5 => ?_
  refine T_seq fun K6 hK6 => ?_
  refine T_region ?_
  refine L_y (y_move rfl) rfl ?_
  refine L_y ((by first | exact y_notD rfl | exact y_not rfl)) rfl ?_
  refine L_y (y_move rfl) rfl ?_
  refine L_splitB 29 rfl (fun h29 => ?_) (fun h29 => ?_)
  ·
    refine L_gno rfl rfl rfl ?_
    refine L_gno rfl rfl rfl ?_
    refine L_y ((by first | exact y_pickT rfl rfl | exact y_pickF rfl rfl)) rfl ?_
    refine L_nil ?_
    refine hK6 _ _ ?_
    refine T_true rfl ?_
    refine T_seq fun K7 hK7 => ?_
    refine T_region ?_
    refine L_y (y_build rfl (show _ = some (mkf zMk).toArray by kernel_rfl)) rfl ?_
    refine L_o (o_stW S7 0 rfl rfl rfl (by rw [mkf_sz]; exact sz87) (by first | (rw [mkf_sz]; done) | (rw [mkf_sz]; rfl)) (fun u hu => mkf_one _ u (by rw [List.toList_toArray] at hu; exact hu)) fun w9 S9 => ?_)
    refine L_y (y_assign rfl) rfl ?_
    refine L_nil ?_
    refine hK7 _ _ ?_
    refine T_ret ?_
    repeat (first | with_reducible refine up_then ?_ | with_reducible refine up_in ?_)
    refine retct rfl rfl rfl (S9.blk 0 rfl) Tryz.underlying87 rfl (by rw [mkf_sz]; exact sz87) ?_
    exact get_outM S9.like0 (m1 (id_bad h1f1 h0f1 (by first | exact .inl (by simpa using h29) | exact .inr h32)))
  ·
    refine L_gyes rfl rfl ?_
    refine L_y (y_move rfl) rfl ?_
    refine L_gyes rfl rfl ?_
    refine L_y (y_neq rfl rfl) rfl ?_
    refine L_y ((by first | exact y_pickT rfl rfl | exact y_pickF rfl rfl)) rfl ?_
    refine L_nil ?_
    refine hK6 _ _ ?_
    refine T_cond rfl (fun h32 => ?_) (fun h32 => ?_)
    ·
      refine T_seq fun K8 hK8 => ?_
      refine T_region ?_
      refine L_y (y_build rfl (show _ = some (mkf zMk).toArray by kernel_rfl)) rfl ?_
      refine L_o (o_stW S7 0 rfl rfl rfl (by rw [mkf_sz]; exact sz87) (by first | (rw [mkf_sz]; done) | (rw [mkf_sz]; rfl)) (fun u hu => mkf_one _ u (by rw [List.toList_toArray] at hu; exact hu)) fun w10 S10 => ?_)
      refine L_y (y_assign rfl) rfl ?_
      refine L_nil ?_
      refine hK8 _ _ ?_
      refine T_ret ?_
      repeat (first | with_reducible refine up_then ?_ | with_reducible refine up_in ?_)
      refine retct rfl rfl rfl (S10.blk 0 rfl) Tryz.underlying87 rfl (by rw [mkf_sz]; exact sz87) ?_
      exact get_outM S10.like0 (m1 (id_bad h1f1 h0f1 (by first | exact .inl (by simpa using h29) | exact .inr h32)))
    ·
      have hid := id_good ho h1f1 (by simpa using h29) (Classical.byContradiction fun e => h32 e)
      have hl1 := hmf1 (by simpa using h29)
      refine T_skip ?_
      refine hK5 _ _ ?_
      refine T_seq fun K9 hK9 => ?_
      refine T_region ?_
      refine L_y (y_ldW Tryz.underlying41 rfl sz41 rfl (S7.blk 2 rfl) (⟨by rw [List.drop_zero]; exact List.take_of_length_le (by simp [idf_len]), by rw [idf_len]⟩ : _ = idf _ ∧ _)) rfl ?_
      refine L_y (y_fieldA 0 Tryz.underlying87 rfl sz41 rfl rfl rfl) rfl ?_
      refine L_o (o_stR S7 1 rfl rfl rfl (by rw [List.size_toArray, idf_len]; exact sz41) (by rw [List.size_toArray, idf_len, mkf_sz]; omega) (fun u hu => bL_one _ u (by rw [List.toList_toArray] at hu; exact hu)) fun w11 S11 => ?_)
      have S12 := S11.blkc 1 rfl (show _ = (mkf (⟨o, 0, ⟨#[]⟩, 0, ⟨#[]⟩⟩ : Mk)).toArray from stm zMk o)
      have S13 : Zx.St w0 noM [blk b1 87 (mkf zMk).toArray, blk b2 87 (mkf (⟨o, 0, ⟨#[]⟩, 0, ⟨#[]⟩⟩ : Mk)).toArray, blk b6 41 (idf o).toArray] w11 := S12.cast (by kernel_rfl)
      refine L_nil ?_
      refine hK9 _ _ ?_
      refine T_seq fun K10 hK10 => ?_
      refine T_region ?_
      refine L_y (y_move rfl) rfl ?_
      refine L_o (o_call Tryz.func78 rfl rfl (rline s1 wKind w11 (by omega) (by decide)) rfl rfl ?_)
      rintro e14 w14 ⟨v14, rfl, l14, hu14⟩
      refine ⟨_, rfl, ?_⟩
      have S14 := S13.like l14
      obtain ⟨tk, s2, f2, hvf2, h1f2, h0f2, hlf2, hmf2⟩ := lineV_b wKind s1
      rw [hvf2] at hu14
      subst hu14
      refine L_y (y_move rfl) rfl ?_
      refine L_y (y_extract rfl rfl) rfl ?_
      refine L_y (y_extract rfl rfl) rfl ?_
      refine L_y (y_extract rfl rfl) rfl ?_
      refine L_y (y_assign rfl) rfl ?_
      refine L_y (y_assign rfl) rfl ?_
      refine L_y (y_assign rfl) rfl ?_
      refine L_nil ?_
      refine hK10 _ _ ?_
      refine T_seq fun K11 hK11 => ?_
      refine T_region ?_
      refine L_y (y_move rfl) rfl ?_
      refine L_o (o_call Tryz.func49 rfl rfl (rnumber ⟨tk.toArray⟩ w14) rfl rfl ?_)
      rintro e15 w15 ⟨v15, rfl, l15, hu15⟩
      refine ⟨_, rfl, ?_⟩
      have S15 := S14.like l15
      obtain ⟨va1, vb1, hnv1, hnc1⟩ := numR_b tk
      have hnw1 : numR (⟨tk.toArray⟩ : ByteArray).data.toList = .tuple #[.int .i64 va1, .int .i64 vb1] := hnv1
      rw [hnw1] at hu15
      subst hu15
      refine L_y (y_move rfl) rfl ?_
      refine L_y (y_extract rfl rfl) rfl ?_
      refine L_y (y_extract rfl rfl) rfl ?_
      refine L_y (y_assign rfl) rfl ?_
      refine L_y (y_assign rfl) rfl ?_
      refine L_nil ?_
      refine hK11 _ _ ?_
      refine T_seq fun K12 hK12 => ?_
      refine T_seq fun K13 hK13 => ?_
      refine T_region ?_
      refine L_y (y_move rfl) rfl ?_
      refine L_y ((by first | exact y_notD rfl | exact y_not rfl)) rfl ?_
      refine L_y (y_move rfl) rfl ?_
      refine L_splitB 49 rfl (fun h49 => ?_) (fun h49 => ?_)
      ·
        refine L_gno rfl rfl rfl ?_
        refine L_gno rfl rfl rfl ?_
        refine L_y ((by first | exact y_pickT rfl rfl | exact y_pickF rfl rfl)) rfl ?_
        refine L_y (y_move rfl) rfl ?_
        refine L_gno rfl rfl rfl ?_
        refine L_gno rfl rfl rfl ?_
        refine L_y ((by first | exact y_pickT rfl rfl | exact y_pickF rfl rfl)) rfl ?_
        refine L_nil ?_
        refine hK13 _ _ ?_
        refine T_true rfl ?_
        refine T_seq fun K14 hK14 => ?_
        refine T_region ?_
        refine L_y (y_build rfl (show _ = some (mkf zMk).toArray by kernel_rfl)) rfl ?_
        refine L_o (o_stW S15 0 rfl rfl rfl (by rw [mkf_sz]; exact sz87) (by first | (rw [mkf_sz]; done) | (rw [mkf_sz]; rfl)) (fun u hu => mkf_one _ u (by rw [List.toList_toArray] at hu; exact hu)) fun w17 S17 => ?_)
        refine L_y (y_assign rfl) rfl ?_
        refine L_nil ?_
        refine hK14 _ _ ?_
        refine T_ret ?_
        repeat (first | with_reducible refine up_then ?_ | with_reducible refine up_in ?_)
        refine retct rfl rfl rfl (S17.blk 0 rfl) Tryz.underlying87 rfl (by rw [mkf_sz]; exact sz87) ?_
        first | exact get_outM S17.like0 (m2 hid (numb_bad h1f2 h0f2 (.inl (by simpa using h49)))) | exact get_outM S17.like0 (m2 hid (numb_bad h1f2 h0f2 (.inr (hnc1.resolve_left (fun h => h53 h.1)).2))) | exact get_outM S17.like0 (m3 hid (numb_good h1f2 (by simpa using h49) (hnc1.resolve_right (fun h => h53 (by omega))).2.1) (by have h8 := (hnc1.resolve_right (fun h => h53 (by omega))).2.2; omega))
      ·
        refine L_gyes rfl rfl ?_
        refine L_y (y_move rfl) rfl ?_
        refine L_gyes rfl rfl ?_
        refine L_y (y_neq rfl rfl) rfl ?_
        refine L_y ((by first | exact y_pickT rfl rfl | exact y_pickF rfl rfl)) rfl ?_
        refine L_y (y_move rfl) rfl ?_
        refine L_split 53 rfl (fun h53 => ?_) (fun h53 => ?_)
        ·
          refine L_gno rfl rfl rfl ?_
          refine L_gno rfl rfl rfl ?_
          refine L_y ((by first | exact y_pickT rfl rfl | exact y_pickF rfl rfl)) rfl ?_
          refine L_nil ?_
          refine hK13 _ _ ?_
          refine T_true rfl ?_
          refine T_seq fun K15 hK15 => ?_
          refine T_region ?_
          refine L_y (y_build rfl (show _ = some (mkf zMk).toArray by kernel_rfl)) rfl ?_
          refine L_o (o_stW S15 0 rfl rfl rfl (by rw [mkf_sz]; exact sz87) (by first | (rw [mkf_sz]; done) | (rw [mkf_sz]; rfl)) (fun u hu => mkf_one _ u (by rw [List.toList_toArray] at hu; exact hu)) fun w19 S19 => ?_)
          refine L_y (y_assign rfl) rfl ?_
          refine L_nil ?_
          refine hK15 _ _ ?_
          refine T_ret ?_
          repeat (first | with_reducible refine up_then ?_ | with_reducible refine up_in ?_)
          refine retct rfl rfl rfl (S19.blk 0 rfl) Tryz.underlying87 rfl (by rw [mkf_sz]; exact sz87) ?_
          first | exact get_outM S19.like0 (m2 hid (numb_bad h1f2 h0f2 (.inl (by simpa using h49)))) | exact get_outM S19.like0 (m2 hid (numb_bad h1f2 h0f2 (.inr (hnc1.resolve_left (fun h => h53 h.1)).2))) | exact get_outM S19.like0 (m3 hid (numb_good h1f2 (by simpa using h49) (hnc1.resolve_right (fun h => h53 (by omega))).2.1) (by have h8 := (hnc1.resolve_right (fun h => h53 (by omega))).2.2; omega))
        ·
          refine L_gyes rfl rfl ?_
          refine L_y (y_move rfl) rfl ?_
          refine L_gyes rfl rfl ?_
          refine L_y (y_gtr rfl rfl) rfl ?_
          refine L_y ((by first | exact y_pickT rfl rfl | exact y_pickF rfl rfl)) rfl ?_
          refine L_nil ?_
          refine hK13 _ _ ?_
          refine T_cond rfl (fun h56 => ?_) (fun h56 => ?_)
          ·
            refine T_seq fun K16 hK16 => ?_
            refine T_region ?_
            refine L_y (y_build rfl (show _ = some (mkf zMk).toArray by kernel_rfl)) rfl ?_
            refine L_o (o_stW S15 0 rfl rfl rfl (by rw [mkf_sz]; exact sz87) (by first | (rw [mkf_sz]; done) | (rw [mkf_sz]; rfl)) (fun u hu => mkf_one _ u (by rw [List.toList_toArray] at hu; exact hu)) fun w20 S20 => ?_)
            refine L_y (y_assign rfl) rfl ?_
            refine L_nil ?_
            refine hK16 _ _ ?_
            refine T_ret ?_
            repeat (first | with_reducible refine up_then ?_ | with_reducible refine up_in ?_)
            refine retct rfl rfl rfl (S20.blk 0 rfl) Tryz.underlying87 rfl (by rw [mkf_sz]; exact sz87) ?_
            first | exact get_outM S20.like0 (m2 hid (numb_bad h1f2 h0f2 (.inl (by simpa using h49)))) | exact get_outM S20.like0 (m2 hid (numb_bad h1f2 h0f2 (.inr (hnc1.resolve_left (fun h => h53 h.1)).2))) | exact get_outM S20.like0 (m3 hid (numb_good h1f2 (by simpa using h49) (hnc1.resolve_right (fun h => h53 (by omega))).2.1) (by have h8 := (hnc1.resolve_right (fun h => h53 (by omega))).2.2; omega))
          ·
            obtain ⟨hvb1, hok1, rfl⟩ := hnc1.resolve_right (fun h => h53 (by omega))
            have hkd := numb_good h1f2 (by simpa using h49) hok1
            have hl2 := hmf2 (by simpa using h49)
            have h9k : ¬ 9 < numV tk := by omega
            refine T_skip ?_
            refine hK12 _ _ ?_
            refine T_seq fun K17 hK17 => ?_
            refine T_region ?_
            refine L_y (y_move rfl) rfl ?_
            refine L_y (y_fieldA 32 Tryz.underlying87 rfl sz3 rfl rfl rfl) rfl ?_
            refine L_o (o_st1 S15 1 rfl rfl rfl rfl sz3 (by rw [mkf_sz]; omega) fun w21 S21 => ?_)
            have S22 := S21.blkc 1 rfl (show _ = (mkf (⟨o, (numV tk : Int), ⟨#[]⟩, 0, ⟨#[]⟩⟩ : Mk)).toArray from stm32 (⟨o, 0, ⟨#[]⟩, 0, ⟨#[]⟩⟩ : Mk) _)
            have S23 : Zx.St w0 noM [blk b1 87 (mkf zMk).toArray, blk b2 87 (mkf (⟨o, (numV tk : Int), ⟨#[]⟩, 0, ⟨#[]⟩⟩ : Mk)).toArray, blk b6 41 (idf o).toArray] w21 := S22.cast (by kernel_rfl)
            refine L_nil ?_
            refine hK17 _ _ ?_
            refine T_seq fun K18 hK18 => ?_
            refine T_region ?_
            refine L_y (y_move rfl) rfl ?_
            refine L_o (o_call Tryz.func78 rfl rfl (rline s2 wName w21 (by omega) (by decide)) rfl rfl ?_)
            rintro e24 w24 ⟨v24, rfl, l24, hu24⟩
            refine ⟨_, rfl, ?_⟩
            have S24 := S23.like l24
            obtain ⟨nm, s3, f3, hvf3, h1f3, h0f3, hlf3, hmf3⟩ := lineV_b wName s2
            rw [hvf3] at hu24
            subst hu24
            refine L_y (y_move rfl) rfl ?_
            refine L_y (y_extract rfl rfl) rfl ?_
            refine L_y (y_extract rfl rfl) rfl ?_
            refine L_y (y_extract rfl rfl) rfl ?_
            refine L_y (y_assign rfl) rfl ?_
            refine L_y (y_assign rfl) rfl ?_
            refine L_y (y_assign rfl) rfl ?_
            refine L_nil ?_
            refine hK18 _ _ ?_
            refine T_seq fun K19 hK19 => ?_
            refine T_seq fun K20 hK20 => ?_
            refine T_region ?_
            refine L_y (y_move rfl) rfl ?_
            refine L_y ((by first | exact y_notD rfl | exact y_not rfl)) rfl ?_
            refine L_nil ?_
            refine hK20 _ _ ?_
            refine T_condB rfl (fun h67 => ?_) (fun h67 => ?_)
            ·
              refine T_seq fun K21 hK21 => ?_
              refine T_region ?_
              refine L_y (y_build rfl (show _ = some (mkf zMk).toArray by kernel_rfl)) rfl ?_
              refine L_o (o_stW S24 0 rfl rfl rfl (by rw [mkf_sz]; exact sz87) (by first | (rw [mkf_sz]; done) | (rw [mkf_sz]; rfl)) (fun u hu => mkf_one _ u (by rw [List.toList_toArray] at hu; exact hu)) fun w25 S25 => ?_)
              refine L_y (y_assign rfl) rfl ?_
              refine L_nil ?_
              refine hK21 _ _ ?_
              refine T_ret ?_
              repeat (first | with_reducible refine up_then ?_ | with_reducible refine up_in ?_)
              refine retct rfl rfl rfl (S25.blk 0 rfl) Tryz.underlying87 rfl (by rw [mkf_sz]; exact sz87) ?_
              exact get_outM S25.like0 (m4 hid hkd (h0f3 (by simpa using h67)))
            ·
              have hnm := h1f3 (by simpa using h67)
              have hl3 := hmf3 (by simpa using h67)
              refine T_skip ?_
              refine hK19 _ _ ?_
              refine T_seq fun K22 hK22 => ?_
              refine T_region ?_
              refine L_y (y_move rfl) rfl ?_
              refine L_y (y_fieldA 33 Tryz.underlying87 rfl sz9 rfl rfl rfl) rfl ?_
              refine L_o (o_st1 S24 1 rfl rfl rfl rfl sz9 (by rw [mkf_sz]; omega) fun w26 S26 => ?_)
              have S27 := S26.blkc 1 rfl (show _ = (mkf (⟨o, (numV tk : Int), ⟨nm.toArray⟩, 0, ⟨#[]⟩⟩ : Mk)).toArray from stm33 (⟨o, (numV tk : Int), ⟨#[]⟩, 0, ⟨#[]⟩⟩ : Mk) _)
              have S28 : Zx.St w0 noM [blk b1 87 (mkf zMk).toArray, blk b2 87 (mkf (⟨o, (numV tk : Int), ⟨nm.toArray⟩, 0, ⟨#[]⟩⟩ : Mk)).toArray, blk b6 41 (idf o).toArray] w26 := S27.cast (by kernel_rfl)
              refine L_nil ?_
              refine hK22 _ _ ?_
              refine T_seq fun K23 hK23 => ?_
              refine T_region ?_
              refine L_y (y_move rfl) rfl ?_
              refine L_o (o_call Tryz.func78 rfl rfl (rline s3 wTime w26 (by omega) (by decide)) rfl rfl ?_)
              rintro e29 w29 ⟨v29, rfl, l29, hu29⟩
              refine ⟨_, rfl, ?_⟩
              have S29 := S28.like l29
              obtain ⟨tn, s4, f4, hvf4, h1f4, h0f4, hlf4, hmf4⟩ := lineV_b wTime s3
              rw [hvf4] at hu29
              subst hu29
              refine L_y (y_move rfl) rfl ?_
              refine L_y (y_extract rfl rfl) rfl ?_
              refine L_y (y_extract rfl rfl) rfl ?_
              refine L_y (y_extract rfl rfl) rfl ?_
              refine L_y (y_assign rfl) rfl ?_
              refine L_y (y_assign rfl) rfl ?_
              refine L_y (y_assign rfl) rfl ?_
              refine L_nil ?_
              refine hK23 _ _ ?_
              refine T_seq fun K24 hK24 => ?_
              refine T_region ?_
              refine L_y (y_move rfl) rfl ?_
              refine L_o (o_call Tryz.func49 rfl rfl (rnumber ⟨tn.toArray⟩ w29) rfl rfl ?_)
              rintro e30 w30 ⟨v30, rfl, l30, hu30⟩
              refine ⟨_, rfl, ?_⟩
              have S30 := S29.like l30
              obtain ⟨va2, vb2, hnv2, hnc2⟩ := numR_b tn
              have hnw2 : numR (⟨tn.toArray⟩ : ByteArray).data.toList = .tuple #[.int .i64 va2, .int .i64 vb2] := hnv2
              rw [hnw2] at hu30
              subst hu30
              refine L_y (y_move rfl) rfl ?_
              refine L_y (y_extract rfl rfl) rfl ?_
              refine L_y (y_extract rfl rfl) rfl ?_
              refine L_y (y_assign rfl) rfl ?_
              refine L_y (y_assign rfl) rfl ?_
              refine L_nil ?_
              refine hK24 _ _ ?_
              refine T_seq fun K25 hK25 => ?_
              refine T_seq fun K26 hK26 => ?_
              refine T_region ?_
              refine L_y (y_move rfl) rfl ?_
              refine L_y ((by first | exact y_notD rfl | exact y_not rfl)) rfl ?_
              refine L_y (y_move rfl) rfl ?_
              refine L_splitB 84 rfl (fun h84 => ?_) (fun h84 => ?_)
              ·
                refine L_gno rfl rfl rfl ?_
                refine L_gno rfl rfl rfl ?_
                refine L_y ((by first | exact y_pickT rfl rfl | exact y_pickF rfl rfl)) rfl ?_
                refine L_y (y_move rfl) rfl ?_
                refine L_gno rfl rfl rfl ?_
                refine L_gno rfl rfl rfl ?_
                refine L_y ((by first | exact y_pickT rfl rfl | exact y_pickF rfl rfl)) rfl ?_
                refine L_y (y_move rfl) rfl ?_
                refine L_gno rfl rfl rfl ?_
                refine L_gno rfl rfl rfl ?_
                refine L_gno rfl rfl rfl ?_
                refine L_y ((by first | exact y_pickT rfl rfl | exact y_pickF rfl rfl)) rfl ?_
                refine L_nil ?_
                refine hK26 _ _ ?_
                refine T_true rfl ?_
                refine T_seq fun K27 hK27 => ?_
                refine T_region ?_
                refine L_y (y_build rfl (show _ = some (mkf zMk).toArray by kernel_rfl)) rfl ?_
                refine L_o (o_stW S30 0 rfl rfl rfl (by rw [mkf_sz]; exact sz87) (by first | (rw [mkf_sz]; done) | (rw [mkf_sz]; rfl)) (fun u hu => mkf_one _ u (by rw [List.toList_toArray] at hu; exact hu)) fun w32 S32 => ?_)
                refine L_y (y_assign rfl) rfl ?_
                refine L_nil ?_
                refine hK27 _ _ ?_
                refine T_ret ?_
                repeat (first | with_reducible refine up_then ?_ | with_reducible refine up_in ?_)
                refine retct rfl rfl rfl (S32.blk 0 rfl) Tryz.underlying87 rfl (by rw [mkf_sz]; exact sz87) ?_
                first | exact get_outM S32.like0 (m5 hid hkd hnm (numb_bad h1f4 h0f4 (.inl (by simpa using h84)))) | exact get_outM S32.like0 (m5 hid hkd hnm (numb_bad h1f4 h0f4 (.inr (hnc2.resolve_left (fun h => h88 h.1)).2))) | exact get_outM S32.like0 (m6 hid hkd hnm (numb_good h1f4 (by simpa using h84) (hnc2.resolve_right (fun h => h88 (by omega))).2.1) (by first | exact textR_n h96 | exact textR_e h92))
              ·
                refine L_gyes rfl rfl ?_
                refine L_y (y_move rfl) rfl ?_
                refine L_gyes rfl rfl ?_
                refine L_y (y_neq rfl rfl) rfl ?_
                refine L_y ((by first | exact y_pickT rfl rfl | exact y_pickF rfl rfl)) rfl ?_
                refine L_y (y_move rfl) rfl ?_
                refine L_split 88 rfl (fun h88 => ?_) (fun h88 => ?_)
                ·
                  refine L_gno rfl rfl rfl ?_
                  refine L_gno rfl rfl rfl ?_
                  refine L_y ((by first | exact y_pickT rfl rfl | exact y_pickF rfl rfl)) rfl ?_
                  refine L_y (y_move rfl) rfl ?_
                  refine L_gno rfl rfl rfl ?_
                  refine L_gno rfl rfl rfl ?_
                  refine L_gno rfl rfl rfl ?_
                  refine L_y ((by first | exact y_pickT rfl rfl | exact y_pickF rfl rfl)) rfl ?_
                  refine L_nil ?_
                  refine hK26 _ _ ?_
                  refine T_true rfl ?_
                  refine T_seq fun K28 hK28 => ?_
                  refine T_region ?_
                  refine L_y (y_build rfl (show _ = some (mkf zMk).toArray by kernel_rfl)) rfl ?_
                  refine L_o (o_stW S30 0 rfl rfl rfl (by rw [mkf_sz]; exact sz87) (by first | (rw [mkf_sz]; done) | (rw [mkf_sz]; rfl)) (fun u hu => mkf_one _ u (by rw [List.toList_toArray] at hu; exact hu)) fun w34 S34 => ?_)
                  refine L_y (y_assign rfl) rfl ?_
                  refine L_nil ?_
                  refine hK28 _ _ ?_
                  refine T_ret ?_
                  repeat (first | with_reducible refine up_then ?_ | with_reducible refine up_in ?_)
                  refine retct rfl rfl rfl (S34.blk 0 rfl) Tryz.underlying87 rfl (by rw [mkf_sz]; exact sz87) ?_
                  first | exact get_outM S34.like0 (m5 hid hkd hnm (numb_bad h1f4 h0f4 (.inl (by simpa using h84)))) | exact get_outM S34.like0 (m5 hid hkd hnm (numb_bad h1f4 h0f4 (.inr (hnc2.resolve_left (fun h => h88 h.1)).2))) | exact get_outM S34.like0 (m6 hid hkd hnm (numb_good h1f4 (by simpa using h84) (hnc2.resolve_right (fun h => h88 (by omega))).2.1) (by first | exact textR_n h96 | exact textR_e h92))
                ·
                  refine L_gyes rfl rfl ?_
                  refine L_y (y_move rfl) rfl ?_
                  refine L_gyes rfl rfl ?_
                  refine L_y (y_seql rfl rfl) rfl ?_
                  refine L_y ((by first | exact y_pickT rfl rfl | exact y_pickF rfl rfl)) rfl ?_
                  refine L_y (y_move rfl) rfl ?_
                  refine L_split 92 rfl (fun h92 => ?_) (fun h92 => ?_)
                  ·
                    refine L_gno rfl rfl rfl ?_
                    refine L_gno rfl rfl rfl ?_
                    refine L_gno rfl rfl rfl ?_
                    refine L_y ((by first | exact y_pickT rfl rfl | exact y_pickF rfl rfl)) rfl ?_
                    refine L_nil ?_
                    refine hK26 _ _ ?_
                    refine T_true rfl ?_
                    refine T_seq fun K29 hK29 => ?_
                    refine T_region ?_
                    refine L_y (y_build rfl (show _ = some (mkf zMk).toArray by kernel_rfl)) rfl ?_
                    refine L_o (o_stW S30 0 rfl rfl rfl (by rw [mkf_sz]; exact sz87) (by first | (rw [mkf_sz]; done) | (rw [mkf_sz]; rfl)) (fun u hu => mkf_one _ u (by rw [List.toList_toArray] at hu; exact hu)) fun w36 S36 => ?_)
                    refine L_y (y_assign rfl) rfl ?_
                    refine L_nil ?_
                    refine hK29 _ _ ?_
                    refine T_ret ?_
                    repeat (first | with_reducible refine up_then ?_ | with_reducible refine up_in ?_)
                    refine retct rfl rfl rfl (S36.blk 0 rfl) Tryz.underlying87 rfl (by rw [mkf_sz]; exact sz87) ?_
                    first | exact get_outM S36.like0 (m5 hid hkd hnm (numb_bad h1f4 h0f4 (.inl (by simpa using h84)))) | exact get_outM S36.like0 (m5 hid hkd hnm (numb_bad h1f4 h0f4 (.inr (hnc2.resolve_left (fun h => h88 h.1)).2))) | exact get_outM S36.like0 (m6 hid hkd hnm (numb_good h1f4 (by simpa using h84) (hnc2.resolve_right (fun h => h88 (by omega))).2.1) (by first | exact textR_n h96 | exact textR_e h92))
                  ·
                    have h0s : 0 < s4.length := Nat.pos_of_ne_zero (fun e => h92 (by rw [List.eq_nil_of_length_eq_zero e]))
                    have hbs4 := bsz s4
                    refine L_gyes rfl rfl ?_
                    refine L_y (y_move rfl) rfl ?_
                    refine L_gyes rfl rfl ?_
                    refine L_y (y_idxS Tryz.underlying9 rfl rfl inferInstance (by omega)) rfl ?_
                    refine L_gyes rfl rfl ?_
                    refine L_y (y_neq rfl rfl) rfl ?_
                    refine L_y ((by first | exact y_pickT rfl rfl | exact y_pickF rfl rfl)) rfl ?_
                    refine L_nil ?_
                    refine hK26 _ _ ?_
                    refine T_cond rfl (fun h96 => ?_) (fun h96 => ?_)
                    ·
                      refine T_seq fun K30 hK30 => ?_
                      refine T_region ?_
                      refine L_y (y_build rfl (show _ = some (mkf zMk).toArray by kernel_rfl)) rfl ?_
                      refine L_o (o_stW S30 0 rfl rfl rfl (by rw [mkf_sz]; exact sz87) (by first | (rw [mkf_sz]; done) | (rw [mkf_sz]; rfl)) (fun u hu => mkf_one _ u (by rw [List.toList_toArray] at hu; exact hu)) fun w37 S37 => ?_)
                      refine L_y (y_assign rfl) rfl ?_
                      refine L_nil ?_
                      refine hK30 _ _ ?_
                      refine T_ret ?_
                      repeat (first | with_reducible refine up_then ?_ | with_reducible refine up_in ?_)
                      refine retct rfl rfl rfl (S37.blk 0 rfl) Tryz.underlying87 rfl (by rw [mkf_sz]; exact sz87) ?_
                      first | exact get_outM S37.like0 (m5 hid hkd hnm (numb_bad h1f4 h0f4 (.inl (by simpa using h84)))) | exact get_outM S37.like0 (m5 hid hkd hnm (numb_bad h1f4 h0f4 (.inr (hnc2.resolve_left (fun h => h88 h.1)).2))) | exact get_outM S37.like0 (m6 hid hkd hnm (numb_good h1f4 (by simpa using h84) (hnc2.resolve_right (fun h => h88 (by omega))).2.1) (by first | exact textR_n h96 | exact textR_e h92))
                    ·
                      obtain ⟨hvb2, hok2, rfl⟩ := hnc2.resolve_right (fun h => h88 (by omega))
                      have hpx : preP s4 [10] := (pre1 s4).2 ⟨h0s, Classical.byContradiction fun e => h96 e⟩
                      have hg : markR s = some (⟨o, numV tk, nm, numV tn, s4.drop 1⟩ : MkL) := m7 hid hkd h9k hnm (numb_good h1f4 (by simpa using h84) hok2) (by unfold textR; exact if_pos hpx)
                      refine T_skip ?_
                      refine hK25 _ _ ?_
                      refine T_seq fun K31 hK31 => ?_
                      refine T_region ?_
                      refine L_y (y_move rfl) rfl ?_
                      refine L_y (y_fieldA 34 Tryz.underlying87 rfl sz3 rfl rfl rfl) rfl ?_
                      refine L_o (o_st1 S30 1 rfl rfl rfl rfl sz3 (by rw [mkf_sz]; omega) fun w38 S38 => ?_)
                      have S39 := S38.blkc 1 rfl (show _ = (mkf (⟨o, (numV tk : Int), ⟨nm.toArray⟩, (numV tn : Int), ⟨#[]⟩⟩ : Mk)).toArray from stm34 (⟨o, (numV tk : Int), ⟨nm.toArray⟩, 0, ⟨#[]⟩⟩ : Mk) _)
                      have S40 : Zx.St w0 noM [blk b1 87 (mkf zMk).toArray, blk b2 87 (mkf (⟨o, (numV tk : Int), ⟨nm.toArray⟩, (numV tn : Int), ⟨#[]⟩⟩ : Mk)).toArray, blk b6 41 (idf o).toArray] w38 := S39.cast (by kernel_rfl)
                      refine L_nil ?_
                      refine hK31 _ _ ?_
                      refine T_seq fun K32 hK32 => ?_
                      refine T_region ?_
                      refine L_y (y_move rfl) rfl ?_
                      refine L_y (y_ssliceL (l := 1) Tryz.underlying9 rfl rfl (Nt.mk (by omega)) (by omega)) rfl ?_
                      rw [ext_drop]
                      refine L_y (y_fieldA 35 Tryz.underlying87 rfl sz9 rfl rfl rfl) rfl ?_
                      refine L_o (o_st1 S40 1 rfl rfl rfl rfl sz9 (by rw [mkf_sz]; omega) fun w41 S41 => ?_)
                      have S42 := S41.blkc 1 rfl (show _ = (mkf (⟨o, (numV tk : Int), ⟨nm.toArray⟩, (numV tn : Int), ⟨(s4.drop 1).toArray⟩⟩ : Mk)).toArray from stm35 (⟨o, (numV tk : Int), ⟨nm.toArray⟩, (numV tn : Int), ⟨#[]⟩⟩ : Mk) _)
                      have S43 : Zx.St w0 noM [blk b1 87 (mkf zMk).toArray, blk b2 87 (mkf (⟨o, (numV tk : Int), ⟨nm.toArray⟩, (numV tn : Int), ⟨(s4.drop 1).toArray⟩⟩ : Mk)).toArray, blk b6 41 (idf o).toArray] w41 := S42.cast (by kernel_rfl)
                      refine L_nil ?_
                      refine hK32 _ _ ?_
                      refine T_seq fun K33 hK33 => ?_
                      refine T_region ?_
                      refine L_y (y_ldW Tryz.underlying87 rfl sz87 rfl (S43.blk 1 rfl) (mk_whole _)) rfl ?_
                      refine L_o (o_call Tryz.func81 rfl rfl (rcheckM (mkOf (⟨o, numV tk, nm, numV tn, s4.drop 1⟩ : MkL)) w41) rfl rfl ?_)
                      rintro e44 w44 ⟨v44, rfl, l44, rfl⟩
                      refine ⟨_, rfl, ?_⟩
                      have S44 := S43.like l44
                      refine L_y (y_assign rfl) rfl ?_
                      refine L_nil ?_
                      refine hK33 _ _ ?_
                      refine T_seq fun K34 hK34 => ?_
                      refine T_seq fun K35 hK35 => ?_
                      refine T_region ?_
                      refine L_y (y_move rfl) rfl ?_
                      refine L_y (y_neq rfl rfl) rfl ?_
                      refine L_nil ?_
                      refine hK35 _ _ ?_
                      refine T_cond rfl (fun h106 => ?_) (fun h106 => ?_)
                      ·
                        refine T_seq fun K36 hK36 => ?_
                        refine T_region ?_
                        refine L_y (y_build rfl (show _ = some (mkf zMk).toArray by kernel_rfl)) rfl ?_
                        refine L_y (y_move rfl) rfl ?_
                        refine L_o (o_stW S44 0 rfl rfl rfl (by rw [mkf_sz]; exact sz87) (by first | (rw [mkf_sz]; done) | (rw [mkf_sz]; rfl)) (fun u hu => mkf_one _ u (by rw [List.toList_toArray] at hu; exact hu)) fun w45 S45 => ?_)
                        refine L_y (y_assign rfl) rfl ?_
                        refine L_nil ?_
                        refine hK36 _ _ ?_
                        refine T_ret ?_
                        repeat (first | with_reducible refine up_then ?_ | with_reducible refine up_in ?_)
                        refine retct rfl rfl rfl (S45.blk 0 rfl) Tryz.underlying87 rfl (by rw [mkf_sz]; exact sz87) ?_
                        have hgo := mo_some hg
                        have h0 : ¬ chkM (mkOf (⟨o, numV tk, nm, numV tn, s4.drop 1⟩ : MkL)) = 0 := fun e => h106 e
                        have hv : mval s = zML := by rw [hgo.2, if_neg h0]
                        rw [hv, hgo.1, zML_mk]
                        exact ⟨_, rfl, S45.like0, rfl⟩
                      ·
                        refine T_skip ?_
                        refine hK34 _ _ ?_
                        refine T_seq fun K37 hK37 => ?_
                        refine T_region ?_
                        refine L_y (y_ldW Tryz.underlying87 rfl sz87 rfl (S44.blk 1 rfl) (mk_whole _)) rfl ?_
                        refine L_o (o_stW S44 0 rfl rfl rfl (by rw [mkf_sz]; exact sz87) (by first | (rw [mkf_sz]; done) | (rw [mkf_sz]; rfl)) (fun u hu => mkf_one _ u (by rw [List.toList_toArray] at hu; exact hu)) fun w46 S46 => ?_)
                        refine L_y (y_assign rfl) rfl ?_
                        refine L_nil ?_
                        refine hK37 _ _ ?_
                        refine T_ret ?_
                        repeat (first | with_reducible refine up_then ?_ | with_reducible refine up_in ?_)
                        refine retct rfl rfl rfl (S46.blk 0 rfl) Tryz.underlying87 rfl (by rw [mkf_sz]; exact sz87) ?_
                        have hgo := mo_some hg
                        have h0 : chkM (mkOf (⟨o, numV tk, nm, numV tn, s4.drop 1⟩ : MkL)) = 0 := Classical.byContradiction fun e => h106 e
                        have hv : mval s = (⟨o, numV tk, nm, numV tn, s4.drop 1⟩ : MkL) := by rw [hgo.2, if_pos h0]
                        rw [hv, hgo.1, h0]
                        exact ⟨_, rfl, S46.like0, rfl⟩
end Go.Proofs.YtgaklngnfecdaaaGreat.Rev


/-
  The document: words, Check.
-/
namespace Go.Proofs.YtgaklngnfecdaaaGreat.Obj
open Go.RowKit Zk Zx
open Oid (idf idf_len)
open Tre (nmOk EV enf enf_len mdOk chkE)
open Rev (cutF cutF_some cutF_none)
set_option linter.unusedVariables false
set_option linter.unusedSimpArgs false

def wlist : List Value := [.string (wordS 1), .string (wordS 2), .string (wordS 3), .string (wordS 4)]
theorem wl_at {k : Int} (h : 1 ≤ k ∧ k ≤ 4) : wlist[(k - 1).toNat]? = some (.string (wordS k)) := by
  have hk : k = 1 ∨ k = 2 ∨ k = 3 ∨ k = 4 := by omega
  rcases hk with rfl | rfl | rfl | rfl <;> rfl
theorem wl_nat {k : Nat} (h : k < 4) : wlist[k]? = some (.string (wordS ((k + 1 : Nat) : Int))) := by
  have hk : k = 0 ∨ k = 1 ∨ k = 2 ∨ k = 3 := by omega
  rcases hk with rfl | rfl | rfl | rfl <;> rfl


set_option maxRecDepth 100000 in
theorem words  (w0 : World)  :
    Calls Tryz.prog 44 #[] w0 fun e w' => ∃ u, e = .returned u ∧ Like w0 w' ∧ ∃ A c, u = .slice A 4 c ∧ Rs w' 1 A 4 c wlist := by
  refine enter1 (env := []) [] Tryz.func44 rfl Tryz.ntmps44 rfl rfl ?_
  have S0 := St.start w0 noM
  refine T_seq fun K1 hK1 => ?_
  refine T_region ?_
  refine L_y (y_assign rfl) rfl ?_
  refine L_nil ?_
  refine hK1 _ _ ?_
  refine T_seq fun K2 hK2 => ?_
  refine T_region ?_
  refine L_o (o_bsl wlist te90 zz9 S0 rfl rfl rfl rfl rfl rfl rfl rfl fun b1 w1 S1 => ?_)
  refine L_y (y_assign rfl) rfl ?_
  refine L_nil ?_
  refine hK2 _ _ ?_
  refine T_ret ?_
  repeat (first | with_reducible refine up_then ?_ | with_reducible refine up_in ?_)
  refine ret1 rfl rfl ?_
  exact ⟨_, rfl, S1.like0, _, _, rfl, S1.row 0 rfl⟩


set_option maxRecDepth 100000 in
theorem rword_ (k : Int) (w0 : World)  :
    Calls Tryz.prog 18 #[.int .i64 k] w0 fun e w' => ∃ u, e = .returned u ∧ Like w0 w' ∧ u = .string (wordS k) := by
  refine enter1 (env := [(0, .int .i64 k)]) [.int .i64 k] Tryz.func18 rfl Tryz.ntmps18 rfl rfl ?_
  have S0 := St.start w0 noM
  refine T_seq fun K1 hK1 => ?_
  refine T_region ?_
  refine L_y (y_assign rfl) rfl ?_
  refine L_nil ?_
  refine hK1 _ _ ?_
  refine T_seq fun K2 hK2 => ?_
  refine T_seq fun K3 hK3 => ?_
  refine T_region ?_
  refine L_y (y_move rfl) rfl ?_
  refine L_y (y_lss rfl rfl) rfl ?_
  refine L_y (y_move rfl) rfl ?_
  refine L_split 5 rfl (fun h5 => ?_) (fun h5 => ?_)
  ·
    refine L_gno rfl rfl rfl ?_
    refine L_gno rfl rfl rfl ?_
    refine L_y ((by first | exact y_pickT rfl rfl | exact y_pickF rfl rfl)) rfl ?_
    refine L_nil ?_
    refine hK3 _ _ ?_
    refine T_true rfl ?_
    refine T_seq fun K4 hK4 => ?_
    refine T_region ?_
    refine L_y (y_assign rfl) rfl ?_
    refine L_nil ?_
    refine hK4 _ _ ?_
    refine T_ret ?_
    repeat (first | with_reducible refine up_then ?_ | with_reducible refine up_in ?_)
    refine ret1 rfl rfl ?_
    exact ⟨_, rfl, S0.like0, congrArg Value.string (word_nil k |>.2 (by omega)).symm⟩
  ·
    refine L_gyes rfl rfl ?_
    refine L_y (y_move rfl) rfl ?_
    refine L_gyes rfl rfl ?_
    refine L_y (y_gtr rfl rfl) rfl ?_
    refine L_y ((by first | exact y_pickT rfl rfl | exact y_pickF rfl rfl)) rfl ?_
    refine L_nil ?_
    refine hK3 _ _ ?_
    refine T_cond rfl (fun h8 => ?_) (fun h8 => ?_)
    ·
      refine T_seq fun K5 hK5 => ?_
      refine T_region ?_
      refine L_y (y_assign rfl) rfl ?_
      refine L_nil ?_
      refine hK5 _ _ ?_
      refine T_ret ?_
      repeat (first | with_reducible refine up_then ?_ | with_reducible refine up_in ?_)
      refine ret1 rfl rfl ?_
      exact ⟨_, rfl, S0.like0, congrArg Value.string (word_nil k |>.2 (by omega)).symm⟩
    ·
      refine T_skip ?_
      refine hK2 _ _ ?_
      refine T_seq fun K6 hK6 => ?_
      refine T_region ?_
      refine L_o (o_call Tryz.func44 rfl rfl (words w0) rfl rfl ?_)
      rintro e2 w2 ⟨v2, rfl, l2, A9, c9, rfl, F9⟩
      refine ⟨_, rfl, ?_⟩
      have S2 := S0.like l2
      refine L_y (y_move rfl) rfl ?_
      refine L_y (y_sub rfl rfl (i64w (by omega))) rfl ?_
      refine L_y (y_idx Tryz.underlying90 sz9 rfl rfl (F9) (Nt.mk (by omega) : Nt _ ((k - 1).toNat)) (by omega)) rfl ?_
      refine L_y (y_ldr Tryz.underlying9 rfl rfl F9 (wl_at (by omega))) rfl ?_
      refine L_y (y_assign rfl) rfl ?_
      refine L_nil ?_
      refine hK6 _ _ ?_
      refine T_ret ?_
      repeat (first | with_reducible refine up_then ?_ | with_reducible refine up_in ?_)
      refine ret1 rfl rfl ?_
      exact ⟨_, rfl, S2.like0, rfl⟩


set_option maxRecDepth 100000 in
theorem rkind_ (s : ByteArray) (w0 : World)  :
    Calls Tryz.prog 20 #[.string s] w0 fun e w' => ∃ u, e = .returned u ∧ Like w0 w' ∧ u = .int .i64 (kindS s) := by
  refine enter1 (env := [(0, .string s)]) [.string s] Tryz.func20 rfl Tryz.ntmps20 rfl rfl ?_
  have S0 := St.start w0 noM
  refine T_seq fun K1 hK1 => ?_
  refine T_region ?_
  refine L_y (y_assign rfl) rfl ?_
  refine L_nil ?_
  refine hK1 _ _ ?_
  refine T_seq fun K2 hK2 => ?_
  refine T_seq fun K3 hK3 => ?_
  refine T_region ?_
  refine L_y (y_assign rfl) rfl ?_
  refine L_nil ?_
  refine hK3 _ _ ?_
  refine T_block ?_
  refine T_loop1 [(0, _)] (fun (k : Nat) => [(3, .int .i64 (k : Int))]) (fun (k : Nat) => 4 - k) (fun (k : Nat) (w : World) => (k ≤ 4 ∧ ∀ j : Nat, 1 ≤ j → j < k + 1 → wordS (j : Int) ≠ s) ∧ Zx.St w0 noM [] w) 0 (Sub.cons rfl (by first | rfl | exact congrArg (Value.int _) (by omega)) (Sub.nil _)) (Sub.cons rfl rfl (Sub.nil _)) ?_ ?_
  ·
    exact ⟨⟨by omega, fun j hj hk => by omega⟩, S0⟩
  ·
    intro k w1 hrel
    obtain ⟨⟨h5, hn⟩, S1⟩ := hrel
    refine T_seq fun K4 hK4 => ?_
    refine T_seq fun K5 hK5 => ?_
    refine T_region ?_
    refine L_y (y_move rfl) rfl ?_
    refine L_y (y_lss rfl rfl) rfl ?_
    refine L_nil ?_
    refine hK5 _ _ ?_
    refine T_cond rfl (fun h5 => ?_) (fun h5 => ?_)
    ·
      refine T_skip ?_
      refine hK4 _ _ ?_
      refine T_seq fun K6 hK6 => ?_
      refine T_block ?_
      refine T_seq fun K7 hK7 => ?_
      refine T_region ?_
      refine L_o (o_call Tryz.func44 rfl rfl (words w1) rfl rfl ?_)
      rintro e2 w2 ⟨v2, rfl, l2, A9, c9, rfl, F9⟩
      refine ⟨_, rfl, ?_⟩
      have S2 := S1.like l2
      refine L_y (y_move rfl) rfl ?_
      refine L_y (y_idx Tryz.underlying90 sz9 rfl rfl (F9) inferInstance (by omega)) rfl ?_
      refine L_y (y_ldr Tryz.underlying9 rfl rfl F9 (wl_nat (by omega))) rfl ?_
      refine L_y (y_move rfl) rfl ?_
      refine L_y (y_seql rfl rfl) rfl ?_
      refine L_nil ?_
      refine hK7 _ _ ?_
      refine T_cond rfl (fun h13 => ?_) (fun h13 => ?_)
      ·
        refine T_seq fun K8 hK8 => ?_
        refine T_region ?_
        refine L_y (y_move rfl) rfl ?_
        refine L_y (y_add rfl rfl (i64w (by omega))) rfl ?_
        refine L_y (y_assign rfl) rfl ?_
        refine L_nil ?_
        refine hK8 _ _ ?_
        refine T_ret ?_
        repeat (first | with_reducible refine up_then ?_ | with_reducible refine up_in ?_)
        refine ret1 rfl rfl ?_
        exact ⟨_, rfl, S2.like0, congrArg (Value.int _) (kindS_at (k := k + 1) (by omega) (by omega) hn h13).symm⟩
      ·
        refine T_skip ?_
        refine hK6 _ _ ?_
        refine T_region ?_
        refine L_y (y_move rfl) rfl ?_
        refine L_y (y_add rfl rfl (i64w (by omega))) rfl ?_
        refine L_y (y_assign rfl) rfl ?_
        refine L_nil ?_
        refine ⟨k + 1, by omega, ⟨⟨by omega, fun j hj hk => by rcases Nat.lt_or_ge j (k + 1) with q | q; exact hn j hj q; (have e : j = k + 1 := by omega); subst e; exact h13⟩, S2⟩, ?_⟩
        exact (Sub.cons rfl (by first | rfl | exact congrArg (Value.int _) (by omega)) (Sub.cons rfl rfl (Sub.nil _)))
    ·
      refine T_exit ?_
      refine hK2 _ _ ?_
      refine T_seq fun K9 hK9 => ?_
      refine T_region ?_
      refine L_y (y_assign rfl) rfl ?_
      refine L_nil ?_
      refine hK9 _ _ ?_
      refine T_ret ?_
      repeat (first | with_reducible refine up_then ?_ | with_reducible refine up_in ?_)
      refine ret1 rfl rfl ?_
      obtain rfl : k = 4 := by omega
      exact ⟨_, rfl, S1.like0, congrArg (Value.int _) (kindS_no hn).symm⟩


set_option maxRecDepth 100000 in
theorem rcheck_ (k : Int) (B : Option Addr) (m d : Nat) (b : List UInt8) (w0 : World) (hb : Rs w0 1 B m d (bL b)) :
    Calls Tryz.prog 16 #[.int .i64 k, .slice B m d] w0 fun e w' => ∃ u, e = .returned u ∧ Like w0 w' ∧ u = .int .i64 (objE k b) := by
  refine enter1 (env := [(0, .int .i64 k), (1, .slice B m d)]) [.int .i64 k, .slice B m d] Tryz.func16 rfl Tryz.ntmps16 rfl rfl ?_
  have hl := hb.lenb; have hcap := hb.cap; have hmax := hb.max
  have S0 := St.start w0 noM
  refine T_seq fun K1 hK1 => ?_
  refine T_region ?_
  refine L_y (y_assign rfl) rfl ?_
  refine L_nil ?_
  refine hK1 _ _ ?_
  refine T_seq fun K2 hK2 => ?_
  refine T_seq fun K3 hK3 => ?_
  refine T_region ?_
  refine L_y (y_move rfl) rfl ?_
  refine L_y (y_lss rfl rfl) rfl ?_
  refine L_y (y_move rfl) rfl ?_
  refine L_split 8 rfl (fun h8 => ?_) (fun h8 => ?_)
  ·
    refine L_gno rfl rfl rfl ?_
    refine L_gno rfl rfl rfl ?_
    refine L_y ((by first | exact y_pickT rfl rfl | exact y_pickF rfl rfl)) rfl ?_
    refine L_nil ?_
    refine hK3 _ _ ?_
    refine T_true rfl ?_
    refine T_seq fun K4 hK4 => ?_
    refine T_region ?_
    refine L_y (y_assign rfl) rfl ?_
    refine L_nil ?_
    refine hK4 _ _ ?_
    refine T_ret ?_
    repeat (first | with_reducible refine up_then ?_ | with_reducible refine up_in ?_)
    refine ret1 rfl rfl ?_
    have he : objE k b = 19 := by unfold objE; rw [if_pos (by omega)]
    exact ⟨_, rfl, S0.like0, by first | (rw [he]; done) | (rw [he]; rfl)⟩
  ·
    refine L_gyes rfl rfl ?_
    refine L_y (y_move rfl) rfl ?_
    refine L_gyes rfl rfl ?_
    refine L_y (y_gtr rfl rfl) rfl ?_
    refine L_y ((by first | exact y_pickT rfl rfl | exact y_pickF rfl rfl)) rfl ?_
    refine L_nil ?_
    refine hK3 _ _ ?_
    refine T_cond rfl (fun h11 => ?_) (fun h11 => ?_)
    ·
      refine T_seq fun K5 hK5 => ?_
      refine T_region ?_
      refine L_y (y_assign rfl) rfl ?_
      refine L_nil ?_
      refine hK5 _ _ ?_
      refine T_ret ?_
      repeat (first | with_reducible refine up_then ?_ | with_reducible refine up_in ?_)
      refine ret1 rfl rfl ?_
      have he : objE k b = 19 := by unfold objE; rw [if_pos (by omega)]
      exact ⟨_, rfl, S0.like0, by first | (rw [he]; done) | (rw [he]; rfl)⟩
    ·
      refine T_skip ?_
      refine hK2 _ _ ?_
      refine T_seq fun K6 hK6 => ?_
      refine T_seq fun K7 hK7 => ?_
      refine T_region ?_
      refine L_y (y_move rfl) rfl ?_
      refine L_y (y_len Tryz.underlying22 rfl) rfl ?_
      refine L_y (y_gtr rfl rfl) rfl ?_
      refine L_nil ?_
      refine hK7 _ _ ?_
      refine T_cond rfl (fun h14 => ?_) (fun h14 => ?_)
      ·
        refine T_seq fun K8 hK8 => ?_
        refine T_region ?_
        refine L_y (y_assign rfl) rfl ?_
        refine L_nil ?_
        refine hK8 _ _ ?_
        refine T_ret ?_
        repeat (first | with_reducible refine up_then ?_ | with_reducible refine up_in ?_)
        refine ret1 rfl rfl ?_
        have he : objE k b = 3 := by unfold objE; rw [if_neg (fun q => q (by omega)), if_pos (by omega)]
        exact ⟨_, rfl, S0.like0, by first | (rw [he]; done) | (rw [he]; rfl)⟩
      ·
        refine T_skip ?_
        refine hK6 _ _ ?_
        refine T_seq fun K9 hK9 => ?_
        refine T_region ?_
        refine L_y (y_assign rfl) rfl ?_
        refine L_nil ?_
        refine hK9 _ _ ?_
        refine T_seq fun K10 hK10 => ?_
        refine T_seq fun K11 hK11 => ?_
        refine T_region ?_
        refine L_y (y_move rfl) rfl ?_
        refine L_nil ?_
        refine hK11 _ _ ?_
        refine T_block ?_
        refine T_seq fun K12 hK12 => ?_
        refine T_region ?_
        refine L_y (y_eql rfl rfl) rfl ?_
        refine L_y (y_assign rfl) rfl ?_
        refine L_nil ?_
        refine hK12 _ _ ?_
        refine T_cond rfl (fun h16 => ?_) (fun h16 => ?_)
        ·
          refine T_region ?_
          refine L_y (y_move rfl) rfl ?_
          refine L_o (o_call Tryz.func41 rfl rfl (rget B m d b w0 (S0.rd hb) (by omega)) rfl rfl ?_)
          rintro e2 w2 ⟨v2, rfl, l2, A20, k20, c20, rfl⟩
          refine ⟨_, rfl, ?_⟩
          have S2 := S0.like l2
          refine L_y (y_move rfl) rfl ?_
          refine L_y (y_extract rfl rfl) rfl ?_
          refine L_y (y_extract rfl rfl) rfl ?_
          refine L_y (y_assign rfl) rfl ?_
          refine L_nil ?_
          refine hK10 _ _ ?_
          refine T_seq fun K13 hK13 => ?_
          refine T_region ?_
          refine L_y (y_move rfl) rfl ?_
          refine L_y (y_assign rfl) rfl ?_
          refine L_nil ?_
          refine hK13 _ _ ?_
          refine T_ret ?_
          repeat (first | with_reducible refine up_then ?_ | with_reducible refine up_in ?_)
          refine ret1 rfl rfl ?_
          have he : objE k b = treeE b := by unfold objE; rw [if_neg (fun q => q (by omega)), if_neg (by omega), if_pos h16]
          exact ⟨_, rfl, S2.like0, by first | (rw [he]; done) | (rw [he]; rfl)⟩
        ·
          refine T_seq fun K14 hK14 => ?_
          refine T_region ?_
          refine L_y (y_eql rfl rfl) rfl ?_
          refine L_y (y_assign rfl) rfl ?_
          refine L_nil ?_
          refine hK14 _ _ ?_
          refine T_cond rfl (fun h23 => ?_) (fun h23 => ?_)
          ·
            refine T_region ?_
            refine L_y (y_move rfl) rfl ?_
            refine L_o (o_call Tryz.func42 rfl rfl (Rev.rgetB B m d b w0 (S0.rd hb) (by omega)) rfl rfl ?_)
            rintro e3 w3 ⟨v3, rfl, l3, A33, c33, F33, rfl⟩
            refine ⟨_, rfl, ?_⟩
            have S3 := S0.like l3
            refine L_y (y_move rfl) rfl ?_
            refine L_y (y_extract rfl rfl) rfl ?_
            refine L_y (y_extract rfl rfl) rfl ?_
            refine L_y (y_assign rfl) rfl ?_
            refine L_nil ?_
            refine hK10 _ _ ?_
            refine T_seq fun K15 hK15 => ?_
            refine T_region ?_
            refine L_y (y_move rfl) rfl ?_
            refine L_y (y_assign rfl) rfl ?_
            refine L_nil ?_
            refine hK15 _ _ ?_
            refine T_ret ?_
            repeat (first | with_reducible refine up_then ?_ | with_reducible refine up_in ?_)
            refine ret1 rfl rfl ?_
            have he : objE k b = Rev.gcode b := by unfold objE; rw [if_neg (fun q => q (by omega)), if_neg (by omega), if_neg h16, if_pos h23]
            exact ⟨_, rfl, S3.like0, by first | (rw [he]; done) | (rw [he]; rfl)⟩
          ·
            refine T_seq fun K16 hK16 => ?_
            refine T_region ?_
            refine L_y (y_eql rfl rfl) rfl ?_
            refine L_y (y_assign rfl) rfl ?_
            refine L_nil ?_
            refine hK16 _ _ ?_
            refine T_cond rfl (fun h30 => ?_) (fun h30 => ?_)
            ·
              refine T_region ?_
              refine L_y (y_move rfl) rfl ?_
              refine L_o (o_call Tryz.func43 rfl rfl (Rev.rgetMB B m d b w0 (S0.rd hb) (by omega)) rfl rfl ?_)
              rintro e4 w4 ⟨v4, rfl, l4, rfl⟩
              refine ⟨_, rfl, ?_⟩
              have S4 := S0.like l4
              refine L_y (y_move rfl) rfl ?_
              refine L_y (y_extract rfl rfl) rfl ?_
              refine L_y (y_extract rfl rfl) rfl ?_
              refine L_y (y_assign rfl) rfl ?_
              refine L_nil ?_
              refine hK10 _ _ ?_
              refine T_seq fun K17 hK17 => ?_
              refine T_region ?_
              refine L_y (y_move rfl) rfl ?_
              refine L_y (y_assign rfl) rfl ?_
              refine L_nil ?_
              refine hK17 _ _ ?_
              refine T_ret ?_
              repeat (first | with_reducible refine up_then ?_ | with_reducible refine up_in ?_)
              refine ret1 rfl rfl ?_
              have he : objE k b = Rev.mcode b := by unfold objE; rw [if_neg (fun q => q (by omega)), if_neg (by omega), if_neg h16, if_neg h23, if_pos h30]
              exact ⟨_, rfl, S4.like0, by first | (rw [he]; done) | (rw [he]; rfl)⟩
            ·
              refine T_skip ?_
              refine hK10 _ _ ?_
              refine T_seq fun K18 hK18 => ?_
              refine T_region ?_
              refine L_y (y_move rfl) rfl ?_
              refine L_y (y_assign rfl) rfl ?_
              refine L_nil ?_
              refine hK18 _ _ ?_
              refine T_ret ?_
              repeat (first | with_reducible refine up_then ?_ | with_reducible refine up_in ?_)
              refine ret1 rfl rfl ?_
              have he : objE k b = 0 := by unfold objE; rw [if_neg (fun q => q (by omega)), if_neg (by omega), if_neg h16, if_neg h23, if_neg h30]
              exact ⟨_, rfl, S0.like0, by first | (rw [he]; done) | (rw [he]; rfl)⟩
end Go.Proofs.YtgaklngnfecdaaaGreat.Obj


/-
  The document: Bytes.
-/
namespace Go.Proofs.YtgaklngnfecdaaaGreat.Obj
open Go.RowKit Zk Zx
open Oid (idf idf_len)
open Tre (nmOk EV enf enf_len mdOk chkE)
open Rev (cutF cutF_some cutF_none)
set_option linter.unusedVariables false
set_option linter.unusedSimpArgs false

set_option maxRecDepth 100000 in
theorem rbytes_ (k : Int) (B : Option Addr) (m d : Nat) (b : List UInt8) (w0 : World) (hb : Rs w0 1 B m d (bL b)) (hm9 : m ≤ 90000) :
    Calls Tryz.prog 13 #[.int .i64 k, .slice B m d] w0 fun e w' => ∃ u, e = .returned u ∧ Like w0 w' ∧ BytesV w0 w' k b u := by
  refine enter1 (env := [(0, .int .i64 k), (1, .slice B m d)]) [.int .i64 k, .slice B m d] Tryz.func13 rfl Tryz.ntmps13 rfl rfl ?_
  have hl := hb.lenb; have hcap := hb.cap; have hmax := hb.max
  have S0 := St.start w0 noM
  refine T_seq fun K1 hK1 => ?_
  refine T_region ?_
  refine L_y (y_assign rfl) rfl ?_
  refine L_y (y_assign rfl) rfl ?_
  refine L_nil ?_
  refine hK1 _ _ ?_
  refine T_seq fun K2 hK2 => ?_
  refine T_region ?_
  refine L_y (y_move rfl) rfl ?_
  refine L_y (y_move rfl) rfl ?_
  refine L_o (o_call Tryz.func16 rfl rfl (rcheck_ k B m d b w0 (S0.rd hb)) rfl rfl ?_)
  rintro e1 w1 ⟨v1, rfl, l1, rfl⟩
  refine ⟨_, rfl, ?_⟩
  have S1 := S0.like l1
  refine L_y (y_assign rfl) rfl ?_
  refine L_nil ?_
  refine hK2 _ _ ?_
  refine T_seq fun K3 hK3 => ?_
  refine T_seq fun K4 hK4 => ?_
  refine T_region ?_
  refine L_y (y_move rfl) rfl ?_
  refine L_y (y_neq rfl rfl) rfl ?_
  refine L_nil ?_
  refine hK4 _ _ ?_
  refine T_cond rfl (fun h12 => ?_) (fun h12 => ?_)
  ·
    refine T_seq fun K5 hK5 => ?_
    refine T_region ?_
    refine L_y (y_move rfl) rfl ?_
    refine L_y (y_assign rfl) rfl ?_
    refine L_y (y_assign rfl) rfl ?_
    refine L_nil ?_
    refine hK5 _ _ ?_
    refine T_ret ?_
    repeat (first | with_reducible refine up_then ?_ | with_reducible refine up_in ?_)
    refine ret2 rfl rfl rfl ?_
    exact ⟨_, rfl, S1.like0, .inl ⟨h12, rfl⟩⟩
  ·
    refine T_skip ?_
    refine hK3 _ _ ?_
    refine T_seq fun K6 hK6 => ?_
    refine T_region ?_
    refine L_y (y_move rfl) rfl ?_
    refine L_o (o_call Tryz.func18 rfl rfl (rword_ k w1) rfl rfl ?_)
    rintro e2 w2 ⟨v2, rfl, l2, rfl⟩
    refine ⟨_, rfl, ?_⟩
    have S2 := S1.like l2
    refine L_y (y_cat rfl rfl (by have h9 := wordS_len k; rw [spsz]; omega)) rfl ?_
    refine L_y (y_move rfl) rfl ?_
    refine L_y (y_len Tryz.underlying22 rfl) rfl ?_
    refine L_o (o_call Tryz.func39 rfl rfl (Rev.rdigits (m : Int) w2 (by omega)) rfl rfl ?_)
    rintro e3 w3 ⟨v3, rfl, l3, rfl⟩
    refine ⟨_, rfl, ?_⟩
    have S3 := S2.like l3
    have hd9 := Rev.digS_len (n := (m : Int)) (by omega)
    have hw9 := wordS_len k
    have hs1 : (wordS k ++ (⟨#[32]⟩ : ByteArray)).size = (wordS k).size + 1 := by rw [ByteArray.size_append, spsz]
    have hs2 : ((wordS k ++ (⟨#[32]⟩ : ByteArray)) ++ (⟨(Rev.digS (m : Int)).toArray⟩ : ByteArray)).size = (wordS k).size + 1 + (Rev.digS (m : Int)).length := by rw [ByteArray.size_append, hs1, Rev.bsz (Rev.digS (m : Int))]
    refine L_y (y_cat rfl rfl (by rw [hs1, Rev.bsz (Rev.digS (m : Int))]; omega)) rfl ?_
    refine L_o (o_sbytesM Tryz.underlying9 Tryz.underlying22 Tryz.underlying5 rfl (by rw [hs2]; omega) S3 rfl fun bb cc w4 ll S4 => ?_)
    refine L_y (y_assign rfl) rfl ?_
    refine L_nil ?_
    refine hK6 _ _ ?_
    refine T_seq fun K7 hK7 => ?_
    refine T_region ?_
    refine L_y (y_move rfl) rfl ?_
    refine L_o (o_bsl [_] te22 zz5 S4 rfl rfl rfl rfl rfl rfl rfl rfl fun b5 w5 S5 => ?_)
    refine L_o (o_appM te22 S5 0 rfl rfl rfl (S5.row 1 rfl) (by intro u hu; simp at hu; subst hu; rfl) rfl (by rw [hs2]; omega) (by rw [hs2]; omega) fun AA ca w6 S6 => ?_)
    refine L_y (y_assign rfl) rfl ?_
    refine L_nil ?_
    refine hK7 _ _ ?_
    refine T_seq fun K8 hK8 => ?_
    refine T_region ?_
    refine L_y (y_move rfl) rfl ?_
    refine L_y (y_move rfl) rfl ?_
    refine L_o (o_appM te22 S6 0 rfl rfl rfl (S6.rd hb) (bL_one _) rfl (by rw [hs2]; omega) (by rw [hs2]; omega) fun AB cb w7 S7 => ?_)
    refine L_y (y_assign rfl) rfl ?_
    refine L_y (y_assign rfl) rfl ?_
    refine L_nil ?_
    refine hK8 _ _ ?_
    refine T_ret ?_
    repeat (first | with_reducible refine up_then ?_ | with_reducible refine up_in ?_)
    refine ret2 rfl rfl rfl ?_
    have he : objE k b = 0 := Classical.byContradiction fun q => h12 q
    have e1 : (((wordS k ++ (⟨#[32]⟩ : ByteArray)) ++ (⟨(Rev.digS (m : Int)).toArray⟩ : ByteArray)).size + 1 + m) = (objB k b).length := by rw [hdr_size]; unfold objB; simp only [List.length_append, List.length_cons, List.length_nil]; rw [hl]
    have e2 : (bL (((wordS k ++ (⟨#[32]⟩ : ByteArray)) ++ (⟨(Rev.digS (m : Int)).toArray⟩ : ByteArray)).data.toList) ++ [Value.int .u8 0]) ++ bL b = bL (objB k b) := by rw [hdr_list]; unfold objB; rw [hl]; unfold bL; simp only [List.map_append, List.map_cons, List.map_nil]; rfl
    have FF := S7.frM 0 rfl
    rw [e1, e2] at FF
    exact ⟨_, rfl, S7.like0, .inr ⟨he, _, _, by rw [e1], FF⟩⟩
end Go.Proofs.YtgaklngnfecdaaaGreat.Obj


/-
  The law ObjectBytes.
-/
namespace Go.Proofs.YtgaklngnfecdaaaGreat.Obj
open Go.RowKit Zk Zx
open Oid (idf idf_len)
open Tre (nmOk EV enf enf_len mdOk chkE)
open Rev (cutF cutF_some cutF_none)
set_option linter.unusedVariables false
set_option linter.unusedSimpArgs false

theorem rbytesGood (k : Int) (B : Option Addr) (m d : Nat) (b : List UInt8) (w0 : World) (hb : Rs w0 1 B m d (bL b)) (hm9 : m ≤ 90000) (he : objE k b = 0) : Calls Tryz.prog 13 #[.int .i64 k, .slice B m d] w0 fun e w' => ∃ u, e = .returned u ∧ Like w0 w' ∧ ∃ A c, u = .tuple #[.slice A (objB k b).length c, .int .i64 0] ∧ Fr w0 w' 1 A (objB k b).length c (bL (objB k b)) :=
  (rbytes_ k B m d b w0 hb hm9).mono fun e w' ⟨u, h1, h2, h3⟩ => by
    rcases h3 with ⟨h, _⟩ | ⟨_, A, c, h4, h5⟩
    · exact absurd he h
    · exact ⟨u, h1, h2, A, c, h4, h5⟩
theorem rbytesBad (k : Int) (B : Option Addr) (m d : Nat) (b : List UInt8) (w0 : World) (hb : Rs w0 1 B m d (bL b)) (hm9 : m ≤ 90000) (he : objE k b ≠ 0) : Calls Tryz.prog 13 #[.int .i64 k, .slice B m d] w0 fun e w' => ∃ u, e = .returned u ∧ Like w0 w' ∧ u = .tuple #[.slice none 0 0, .int .i64 (objE k b)] :=
  (rbytes_ k B m d b w0 hb hm9).mono fun e w' ⟨u, h1, h2, h3⟩ => by
    rcases h3 with ⟨_, h⟩ | ⟨h, _⟩
    · exact ⟨u, h1, h2, h⟩
    · exact absurd h he
theorem rsN (w : World) : Rs w 1 none 0 0 (bL []) := ⟨⟨rfl, fun h => absurd h (by omega)⟩, by omega, by omega⟩


set_option maxRecDepth 100000 in
theorem lbytes1 (k : Int) (B : Option Addr) (m d : Nat) (b : List UInt8) (s : ByteArray) (w0 : World) (hb : Rs w0 1 B m d (bL b)) (he : objE k b = 0) :
    Calls Tryz.prog 3 #[.int .i64 k, .slice B m d, .string s] w0 fun e w' => ∃ u, e = .returned u ∧ Like w0 w' ∧ u = .bool true := by
  refine enter1 (env := [(0, .int .i64 k), (1, .slice B m d), (2, .string s)]) [.int .i64 k, .slice B m d, .string s] Tryz.func3 rfl Tryz.ntmps3 rfl rfl ?_
  have hl := hb.lenb; have hcap := hb.cap; have hmax := hb.max
  have S0 := St.start w0 noM
  refine T_seq fun K1 hK1 => ?_
  refine T_region ?_
  refine L_y (y_assign rfl) rfl ?_
  refine L_nil ?_
  refine hK1 _ _ ?_
  refine T_seq fun K2 hK2 => ?_
  refine T_seq fun K3 hK3 => ?_
  refine T_region ?_
  refine L_y (y_move rfl) rfl ?_
  refine L_y (y_len Tryz.underlying22 rfl) rfl ?_
  refine L_y (y_gtr rfl rfl) rfl ?_
  refine L_nil ?_
  refine hK3 _ _ ?_
  refine T_cond rfl (fun h13 => ?_) (fun h13 => ?_)
  ·
    refine T_seq fun K4 hK4 => ?_
    refine T_region ?_
    refine L_o (o_call Tryz.func11 rfl rfl (works8 w0) rfl rfl ?_)
    rintro e1 w1 ⟨v1, rfl, l1, rfl⟩
    refine ⟨_, rfl, ?_⟩
    have S1 := S0.like l1
    refine L_y (y_assign rfl) rfl ?_
    refine L_nil ?_
    refine hK4 _ _ ?_
    refine T_ret ?_
    repeat (first | with_reducible refine up_then ?_ | with_reducible refine up_in ?_)
    refine ret1 rfl rfl ?_
    exact ⟨_, rfl, S1.like0, rfl⟩
  ·
    refine T_skip ?_
    refine hK2 _ _ ?_
    refine T_seq fun K5 hK5 => ?_
    refine T_region ?_
    refine L_y (y_move rfl) rfl ?_
    refine L_y (y_move rfl) rfl ?_
    refine L_o (o_call Tryz.func12 rfl rfl (bytesGood k B m d b w0 (S0.rd hb) (by omega) he) rfl rfl ?_)
    rintro e2 w2 ⟨v2, rfl, l2, A18, c18, rfl, F2⟩
    refine ⟨_, rfl, ?_⟩
    have S2 := S0.adoptF l2 F2
    refine L_y (y_move rfl) rfl ?_
    refine L_y (y_extract rfl rfl) rfl ?_
    refine L_y (y_extract rfl rfl) rfl ?_
    refine L_y (y_assign rfl) rfl ?_
    refine L_y (y_assign rfl) rfl ?_
    refine L_nil ?_
    refine hK5 _ _ ?_
    refine T_seq fun K6 hK6 => ?_
    refine T_region ?_
    refine L_y (y_move rfl) rfl ?_
    refine L_y (y_move rfl) rfl ?_
    refine L_o (o_call Tryz.func13 rfl rfl (rbytesGood k B m d b w2 (S2.rd hb) (by omega) he) rfl rfl ?_)
    rintro e3 w3 ⟨v3, rfl, l3, A24, c24, rfl, F3⟩
    refine ⟨_, rfl, ?_⟩
    have S3 := S2.adoptF l3 F3
    refine L_y (y_move rfl) rfl ?_
    refine L_y (y_extract rfl rfl) rfl ?_
    refine L_y (y_extract rfl rfl) rfl ?_
    refine L_y (y_assign rfl) rfl ?_
    refine L_y (y_assign rfl) rfl ?_
    refine L_nil ?_
    refine hK6 _ _ ?_
    refine T_seq fun K7 hK7 => ?_
    refine T_seq fun K8 hK8 => ?_
    refine T_region ?_
    refine L_y (y_move rfl) rfl ?_
    refine L_y (y_move rfl) rfl ?_
    refine L_o (o_call Tryz.func14 rfl rfl (Oct.same _ _ _ _ _ _ _ _ w3 (S3.fix 0 rfl) (S3.fix 1 rfl)) rfl rfl ?_)
    rintro e4 w4 ⟨v4, rfl, l4, rfl⟩
    refine ⟨_, rfl, ?_⟩
    have S4 := S3.like l4
    refine L_y ((by first | exact y_notD rfl | exact y_not rfl)) rfl ?_
    refine L_y (y_move rfl) rfl ?_
    refine L_split 31 rfl (fun h31 => ?_) (fun h31 => ?_)
    ·
      exact absurd rfl h31
    ·
      refine L_gyes rfl rfl ?_
      refine L_y (y_move rfl) rfl ?_
      refine L_gyes rfl rfl ?_
      refine L_y (y_move rfl) rfl ?_
      refine L_gyes rfl rfl ?_
      refine L_y (y_neq rfl rfl) rfl ?_
      refine L_y ((by first | exact y_pickT rfl rfl | exact y_pickF rfl rfl)) rfl ?_
      refine L_y (y_move rfl) rfl ?_
      refine L_split 36 rfl (fun h36 => ?_) (fun h36 => ?_)
      ·
        exact absurd rfl h36
      ·
        refine L_gyes rfl rfl ?_
        refine L_y (y_move rfl) rfl ?_
        refine L_gyes rfl rfl ?_
        refine L_y (y_move rfl) rfl ?_
        refine L_gyes rfl rfl ?_
        refine L_o (o_call Tryz.func15 rfl rfl (check_ k B m d b w4 (S4.rd hb)) rfl rfl ?_)
        rintro e7 w7 ⟨v7, rfl, l7, rfl⟩
        refine ⟨_, rfl, ?_⟩
        have S7 := S4.like l7
        refine L_gyes rfl rfl ?_
        refine L_y (y_move rfl) rfl ?_
        refine L_gyes rfl rfl ?_
        refine L_y (y_move rfl) rfl ?_
        refine L_gyes rfl rfl ?_
        refine L_o (o_call Tryz.func16 rfl rfl (rcheck_ k B m d b w7 (S7.rd hb)) rfl rfl ?_)
        rintro e8 w8 ⟨v8, rfl, l8, rfl⟩
        refine ⟨_, rfl, ?_⟩
        have S8 := S7.like l8
        refine L_gyes rfl rfl ?_
        refine L_y (y_neq rfl rfl) rfl ?_
        refine L_y ((by first | exact y_pickT rfl rfl | exact y_pickF rfl rfl)) rfl ?_
        refine L_nil ?_
        refine hK8 _ _ ?_
        refine T_cond rfl (fun h44 => ?_) (fun h44 => ?_)
        ·
          exact absurd rfl h44
        ·
          refine T_skip ?_
          refine hK7 _ _ ?_
          refine T_seq fun K9 hK9 => ?_
          refine T_region ?_
          refine L_y (y_move rfl) rfl ?_
          refine L_o (o_call Tryz.func17 rfl rfl (word_ k w8) rfl rfl ?_)
          rintro e9 w9 ⟨v9, rfl, l9, rfl⟩
          refine ⟨_, rfl, ?_⟩
          have S9 := S8.like l9
          refine L_y (y_move rfl) rfl ?_
          refine L_o (o_call Tryz.func18 rfl rfl (rword_ k w9) rfl rfl ?_)
          rintro e10 w10 ⟨v10, rfl, l10, rfl⟩
          refine ⟨_, rfl, ?_⟩
          have S10 := S9.like l10
          refine L_y (y_seql rfl rfl) rfl ?_
          refine L_y (y_move rfl) rfl ?_
          refine L_split 50 rfl (fun h50 => ?_) (fun h50 => ?_)
          ·
            refine L_gyes rfl rfl ?_
            refine L_y (y_move rfl) rfl ?_
            refine L_gyes rfl rfl ?_
            refine L_o (o_call Tryz.func19 rfl rfl (kind_ s w10) rfl rfl ?_)
            rintro e12 w12 ⟨v12, rfl, l12, rfl⟩
            refine ⟨_, rfl, ?_⟩
            have S12 := S10.like l12
            refine L_gyes rfl rfl ?_
            refine L_y (y_move rfl) rfl ?_
            refine L_gyes rfl rfl ?_
            refine L_o (o_call Tryz.func20 rfl rfl (rkind_ s w12) rfl rfl ?_)
            rintro e13 w13 ⟨v13, rfl, l13, rfl⟩
            refine ⟨_, rfl, ?_⟩
            have S13 := S12.like l13
            refine L_gyes rfl rfl ?_
            refine L_y (y_eql rfl rfl) rfl ?_
            refine L_y ((by first | exact y_pickT rfl rfl | exact y_pickF rfl rfl)) rfl ?_
            refine L_y (y_move rfl) rfl ?_
            refine L_split 57 rfl (fun h57 => ?_) (fun h57 => ?_)
            ·
              refine L_gyes rfl rfl ?_
              refine L_o (o_call Tryz.func11 rfl rfl (works8 w13) rfl rfl ?_)
              rintro e15 w15 ⟨v15, rfl, l15, rfl⟩
              refine ⟨_, rfl, ?_⟩
              have S15 := S13.like l15
              refine L_y ((by first | exact y_pickT rfl rfl | exact y_pickF rfl rfl)) rfl ?_
              refine L_y (y_assign rfl) rfl ?_
              refine L_nil ?_
              refine hK9 _ _ ?_
              refine T_ret ?_
              repeat (first | with_reducible refine up_then ?_ | with_reducible refine up_in ?_)
              refine ret1 rfl rfl ?_
              exact ⟨_, rfl, S15.like0, rfl⟩
            ·
              exact absurd rfl h57
          ·
            exact absurd rfl h50


set_option maxRecDepth 100000 in
theorem lbytes0 (k : Int) (B : Option Addr) (m d : Nat) (b : List UInt8) (s : ByteArray) (w0 : World) (hb : Rs w0 1 B m d (bL b)) (he : objE k b ≠ 0) :
    Calls Tryz.prog 3 #[.int .i64 k, .slice B m d, .string s] w0 fun e w' => ∃ u, e = .returned u ∧ Like w0 w' ∧ u = .bool true := by
  refine enter1 (env := [(0, .int .i64 k), (1, .slice B m d), (2, .string s)]) [.int .i64 k, .slice B m d, .string s] Tryz.func3 rfl Tryz.ntmps3 rfl rfl ?_
  have hl := hb.lenb; have hcap := hb.cap; have hmax := hb.max
  have S0 := St.start w0 noM
  refine T_seq fun K1 hK1 => ?_
  refine T_region ?_
  refine L_y (y_assign rfl) rfl ?_
  refine L_nil ?_
  refine hK1 _ _ ?_
  refine T_seq fun K2 hK2 => ?_
  refine T_seq fun K3 hK3 => ?_
  refine T_region ?_
  refine L_y (y_move rfl) rfl ?_
  refine L_y (y_len Tryz.underlying22 rfl) rfl ?_
  refine L_y (y_gtr rfl rfl) rfl ?_
  refine L_nil ?_
  refine hK3 _ _ ?_
  refine T_cond rfl (fun h13 => ?_) (fun h13 => ?_)
  ·
    refine T_seq fun K4 hK4 => ?_
    refine T_region ?_
    refine L_o (o_call Tryz.func11 rfl rfl (works8 w0) rfl rfl ?_)
    rintro e1 w1 ⟨v1, rfl, l1, rfl⟩
    refine ⟨_, rfl, ?_⟩
    have S1 := S0.like l1
    refine L_y (y_assign rfl) rfl ?_
    refine L_nil ?_
    refine hK4 _ _ ?_
    refine T_ret ?_
    repeat (first | with_reducible refine up_then ?_ | with_reducible refine up_in ?_)
    refine ret1 rfl rfl ?_
    exact ⟨_, rfl, S1.like0, rfl⟩
  ·
    refine T_skip ?_
    refine hK2 _ _ ?_
    refine T_seq fun K5 hK5 => ?_
    refine T_region ?_
    refine L_y (y_move rfl) rfl ?_
    refine L_y (y_move rfl) rfl ?_
    refine L_o (o_call Tryz.func12 rfl rfl (bytesBad k B m d b w0 (S0.rd hb) (by omega) he) rfl rfl ?_)
    rintro e2 w2 ⟨v2, rfl, l2, rfl⟩
    refine ⟨_, rfl, ?_⟩
    have S2 := S0.like l2
    refine L_y (y_move rfl) rfl ?_
    refine L_y (y_extract rfl rfl) rfl ?_
    refine L_y (y_extract rfl rfl) rfl ?_
    refine L_y (y_assign rfl) rfl ?_
    refine L_y (y_assign rfl) rfl ?_
    refine L_nil ?_
    refine hK5 _ _ ?_
    refine T_seq fun K6 hK6 => ?_
    refine T_region ?_
    refine L_y (y_move rfl) rfl ?_
    refine L_y (y_move rfl) rfl ?_
    refine L_o (o_call Tryz.func13 rfl rfl (rbytesBad k B m d b w2 (S2.rd hb) (by omega) he) rfl rfl ?_)
    rintro e3 w3 ⟨v3, rfl, l3, rfl⟩
    refine ⟨_, rfl, ?_⟩
    have S3 := S2.like l3
    refine L_y (y_move rfl) rfl ?_
    refine L_y (y_extract rfl rfl) rfl ?_
    refine L_y (y_extract rfl rfl) rfl ?_
    refine L_y (y_assign rfl) rfl ?_
    refine L_y (y_assign rfl) rfl ?_
    refine L_nil ?_
    refine hK6 _ _ ?_
    refine T_seq fun K7 hK7 => ?_
    refine T_seq fun K8 hK8 => ?_
    refine T_region ?_
    refine L_y (y_move rfl) rfl ?_
    refine L_y (y_move rfl) rfl ?_
    refine L_o (o_call Tryz.func14 rfl rfl (Oct.same _ _ _ _ _ _ _ _ w3 (rsN _) (rsN _)) rfl rfl ?_)
    rintro e4 w4 ⟨v4, rfl, l4, rfl⟩
    refine ⟨_, rfl, ?_⟩
    have S4 := S3.like l4
    refine L_y ((by first | exact y_notD rfl | exact y_not rfl)) rfl ?_
    refine L_y (y_move rfl) rfl ?_
    refine L_split 31 rfl (fun h31 => ?_) (fun h31 => ?_)
    ·
      exact absurd rfl h31
    ·
      refine L_gyes rfl rfl ?_
      refine L_y (y_move rfl) rfl ?_
      refine L_gyes rfl rfl ?_
      refine L_y (y_move rfl) rfl ?_
      refine L_gyes rfl rfl ?_
      refine L_y (y_neq rfl rfl) rfl ?_
      refine L_y ((by first | exact y_pickT rfl rfl | exact y_pickF rfl rfl)) rfl ?_
      refine L_y (y_move rfl) rfl ?_
      refine L_split 36 rfl (fun h36 => ?_) (fun h36 => ?_)
      ·
        exact absurd rfl h36
      ·
        refine L_gyes rfl rfl ?_
        refine L_y (y_move rfl) rfl ?_
        refine L_gyes rfl rfl ?_
        refine L_y (y_move rfl) rfl ?_
        refine L_gyes rfl rfl ?_
        refine L_o (o_call Tryz.func15 rfl rfl (check_ k B m d b w4 (S4.rd hb)) rfl rfl ?_)
        rintro e7 w7 ⟨v7, rfl, l7, rfl⟩
        refine ⟨_, rfl, ?_⟩
        have S7 := S4.like l7
        refine L_gyes rfl rfl ?_
        refine L_y (y_move rfl) rfl ?_
        refine L_gyes rfl rfl ?_
        refine L_y (y_move rfl) rfl ?_
        refine L_gyes rfl rfl ?_
        refine L_o (o_call Tryz.func16 rfl rfl (rcheck_ k B m d b w7 (S7.rd hb)) rfl rfl ?_)
        rintro e8 w8 ⟨v8, rfl, l8, rfl⟩
        refine ⟨_, rfl, ?_⟩
        have S8 := S7.like l8
        refine L_gyes rfl rfl ?_
        refine L_y (y_neq rfl rfl) rfl ?_
        refine L_y ((by first | exact y_pickT rfl rfl | exact y_pickF rfl rfl)) rfl ?_
        refine L_nil ?_
        refine hK8 _ _ ?_
        refine T_cond rfl (fun h44 => ?_) (fun h44 => ?_)
        ·
          exact absurd rfl h44
        ·
          refine T_skip ?_
          refine hK7 _ _ ?_
          refine T_seq fun K9 hK9 => ?_
          refine T_region ?_
          refine L_y (y_move rfl) rfl ?_
          refine L_o (o_call Tryz.func17 rfl rfl (word_ k w8) rfl rfl ?_)
          rintro e9 w9 ⟨v9, rfl, l9, rfl⟩
          refine ⟨_, rfl, ?_⟩
          have S9 := S8.like l9
          refine L_y (y_move rfl) rfl ?_
          refine L_o (o_call Tryz.func18 rfl rfl (rword_ k w9) rfl rfl ?_)
          rintro e10 w10 ⟨v10, rfl, l10, rfl⟩
          refine ⟨_, rfl, ?_⟩
          have S10 := S9.like l10
          refine L_y (y_seql rfl rfl) rfl ?_
          refine L_y (y_move rfl) rfl ?_
          refine L_split 50 rfl (fun h50 => ?_) (fun h50 => ?_)
          ·
            refine L_gyes rfl rfl ?_
            refine L_y (y_move rfl) rfl ?_
            refine L_gyes rfl rfl ?_
            refine L_o (o_call Tryz.func19 rfl rfl (kind_ s w10) rfl rfl ?_)
            rintro e12 w12 ⟨v12, rfl, l12, rfl⟩
            refine ⟨_, rfl, ?_⟩
            have S12 := S10.like l12
            refine L_gyes rfl rfl ?_
            refine L_y (y_move rfl) rfl ?_
            refine L_gyes rfl rfl ?_
            refine L_o (o_call Tryz.func20 rfl rfl (rkind_ s w12) rfl rfl ?_)
            rintro e13 w13 ⟨v13, rfl, l13, rfl⟩
            refine ⟨_, rfl, ?_⟩
            have S13 := S12.like l13
            refine L_gyes rfl rfl ?_
            refine L_y (y_eql rfl rfl) rfl ?_
            refine L_y ((by first | exact y_pickT rfl rfl | exact y_pickF rfl rfl)) rfl ?_
            refine L_y (y_move rfl) rfl ?_
            refine L_split 57 rfl (fun h57 => ?_) (fun h57 => ?_)
            ·
              refine L_gyes rfl rfl ?_
              refine L_o (o_call Tryz.func11 rfl rfl (works8 w13) rfl rfl ?_)
              rintro e15 w15 ⟨v15, rfl, l15, rfl⟩
              refine ⟨_, rfl, ?_⟩
              have S15 := S13.like l15
              refine L_y ((by first | exact y_pickT rfl rfl | exact y_pickF rfl rfl)) rfl ?_
              refine L_y (y_assign rfl) rfl ?_
              refine L_nil ?_
              refine hK9 _ _ ?_
              refine T_ret ?_
              repeat (first | with_reducible refine up_then ?_ | with_reducible refine up_in ?_)
              refine ret1 rfl rfl ?_
              exact ⟨_, rfl, S15.like0, rfl⟩
            ·
              exact absurd rfl h57
          ·
            exact absurd rfl h50


theorem lbytes_law (k : Int) (B : Option Addr) (m d : Nat) (b : List UInt8) (s : ByteArray) (w0 : World) (hb : Rs w0 1 B m d (bL b)) :
    Calls Tryz.prog 3 #[.int .i64 k, .slice B m d, .string s] w0 fun e w' => e = .returned (.bool true) ∧ Below w0.heap.size w0 w' := by
  by_cases he : objE k b = 0
  · exact (lbytes1 k B m d b s w0 hb he).mono fun e w' ⟨u, h1, h2, h3⟩ => by subst h3; exact ⟨h1, h2⟩
  · exact (lbytes0 k B m d b s w0 hb he).mono fun e w' ⟨u, h1, h2, h3⟩ => by subst h3; exact ⟨h1, h2⟩
end Go.Proofs.YtgaklngnfecdaaaGreat.Obj
