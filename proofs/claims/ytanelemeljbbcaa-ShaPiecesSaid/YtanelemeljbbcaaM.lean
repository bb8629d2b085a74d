/-
  The sum, by the reference.
-/
import Derived.Test.YtanelemeljbbcaaL
namespace Go.Proofs.Ytanelemeljbbcaa
open Go.RowKit Zk Zx
set_option linter.unusedVariables false
set_option linter.unusedSimpArgs false

theorem whole8 (v : Go.Proofs.Ytanelemeljbbcaa.St) : ((uA v.list).toList.drop 0).take 8 = uL v.list ∧ (uL v.list).length = 8 :=
  ⟨by rw [List.drop_zero]; exact List.take_of_length_le (by rw [Array.length_toList, size_uA, list_8]; omega), by rw [length_uL, list_8]⟩
/-- q bytes of the number k laid, from the last on. -/
def idR (v : Go.Proofs.Ytanelemeljbbcaa.St) (k q : Nat) : List UInt8 := (v.list.take k).flatMap be4 ++ (List.replicate (4 - q) 0 ++ (be4 (v.list.getD k 0)).drop (4 - q) ++ List.replicate (32 - 4 * (k + 1)) 0)
theorem idR_0 (v : Go.Proofs.Ytanelemeljbbcaa.St) (k : Nat) (h : k < 8) : idR v k 0 = idU v k := by
  unfold idR idU
  congr 1
  rw [show 32 - 4 * k = 4 + (32 - 4 * (k + 1)) by omega, ← List.replicate_append_replicate]
  simp [be4]
theorem idR_4 (v : Go.Proofs.Ytanelemeljbbcaa.St) (k : Nat) (h : k < 8) : idR v k 4 = idU v (k + 1) := by
  unfold idR idU
  rw [take_next v k h]
  simp [be4]
theorem length_idR (v : Go.Proofs.Ytanelemeljbbcaa.St) (k q : Nat) (h : k < 8) (hq : q ≤ 4) : (idR v k q).length = 32 := by
  simp only [idR, List.length_append, length_be4, List.length_take, list_8, List.length_replicate, List.length_drop]
  simp only [be4, List.length_cons, List.length_nil]
  omega
theorem idR_set (v : Go.Proofs.Ytanelemeljbbcaa.St) (k q : Nat) (h : k < 8) (hq : q < 4) :
    (bA (idR v k q)).setIfInBounds (4 * k + (3 - q)) (.int .u8 (N (v.list.getD k 0) / 256 ^ q % 256 % 256)) = bA (idR v k (q + 1)) := by
  generalize hx : v.list.getD k 0 = x
  have hp : ((v.list.take k).flatMap be4).length = 4 * k := by rw [length_be4, List.length_take, list_8]; omega
  have e : ∀ (c : UInt8), (idR v k q).set (4 * k + (3 - q)) c = (v.list.take k).flatMap be4 ++ ((List.replicate (4 - q) 0 ++ (be4 x).drop (4 - q) ++ List.replicate (32 - 4 * (k + 1)) 0).set (3 - q) c) := fun c => by
    unfold idR
    rw [List.set_append_right _ _ (by omega), hp, hx]
    congr 2
    omega
  have hq' : q = 0 ∨ q = 1 ∨ q = 2 ∨ q = 3 := by omega
  rcases hq' with rfl | rfl | rfl | rfl
  · rw [bA_set _ _ (UInt8.ofNat (x.toNat % 256)) _ (by rw [UInt8.toNat_ofNat']; unfold N; omega), e]
    unfold idR; rw [hx]; simp [be4]
  · rw [bA_set _ _ (UInt8.ofNat (x.toNat / 256 % 256)) _ (by rw [UInt8.toNat_ofNat']; unfold N; omega), e]
    unfold idR; rw [hx]; simp [be4]
  · rw [bA_set _ _ (UInt8.ofNat (x.toNat / 65536 % 256)) _ (by rw [UInt8.toNat_ofNat']; unfold N; omega), e]
    unfold idR; rw [hx]; simp [be4]
  · rw [bA_set _ _ (UInt8.ofNat (x.toNat / 16777216 % 256)) _ (by rw [UInt8.toNat_ofNat']; unfold N; omega), e]
    unfold idR; rw [hx]; simp [be4]
theorem N_div (x : UInt32) (q : Nat) : 0 ≤ N x / 256 ^ q ∧ N x / 256 ^ q ≤ 4294967295 := by
  have h1 := N_ge x
  have h2 := N_le x
  have h3 : (0 : Int) < 256 ^ q := Int.pow_pos (by omega)
  refine ⟨Int.ediv_nonneg h1 (by omega), ?_⟩
  exact Int.le_trans (Int.ediv_le_self _ h1) h2
theorem divq (x : UInt32) (q : Nat) : N x / 256 ^ q / 256 = N x / 256 ^ (q + 1) := by
  rw [Int.pow_succ, Int.ediv_ediv_of_nonneg (Int.pow_nonneg (by omega))]


set_option maxRecDepth 100000 in
set_option maxHeartbeats 1000000 in
theorem refof (l : List UInt8) (A : Option Addr) (n c : Nat) (w0 : World) (ha : Rs w0 1 A n c (bL l)) (hlen : n ≤ 100000) :
    Calls Try.prog 11 #[.slice A n c] w0 fun e w' => ∃ u, e = .returned u ∧ Like w0 w' ∧ u = .agg (bA (ofL l)) := by
  refine enter1 (env := [(0, .slice A n c)]) [.slice A n c] Try.func11 rfl Try.ntmps11 rfl rfl ?_
  have S0 := St.start w0 noM
  refine T_seq fun K1 hK1 => ?_
  refine T_region ?_
  refine L_o (o_alloc zz30 S0 rfl fun b1 w1 hb1 S1 => ?_)
  refine L_nil ?_
  refine hK1 _ _ ?_
  refine T_seq fun K2 hK2 => ?_
  refine T_region ?_
  have S2 := S1.nilrow 5 1
  refine L_y (y_assign rfl) rfl ?_
  refine L_nil ?_
  refine hK2 _ _ ?_
  refine T_seq fun K3 hK3 => ?_
  refine T_region ?_
  refine L_y (y_move rfl) rfl ?_
  refine L_y (y_move rfl) rfl ?_
  refine L_o (o_app te23 S2 1 rfl rfl rfl (by first | exact S2.rd ha | exact S2.row 1 rfl) (by first | exact bL_one _ | exact iL_one _ | (intro u hu; simp at hu; subst hu; rfl) | (simp; done) | (simp [Value.oneCell']; done)) rfl (by omega) (by omega) fun A3 c3 w3 S3 => ?_)
  have hln : l.length = n := ha.lenb
  refine L_y (y_assign rfl) rfl ?_
  refine L_nil ?_
  refine hK3 _ _ ?_
  refine T_seq fun K4 hK4 => ?_
  refine T_region ?_
  refine L_y (y_move rfl) rfl ?_
  refine L_y (y_move rfl) rfl ?_
  refine L_y (y_len Try.underlying23 rfl) rfl ?_
  refine L_y (y_conv is3 Try.underlying22 rfl (u64w (by omega))) rfl ?_
  refine L_o (o_call Try.func9 rfl rfl (refpad n (by omega) _) rfl rfl ?_)
  rintro e4 w4 ⟨v4, rfl, l4, A4, m4, c4, rfl, o4⟩
  refine ⟨_, rfl, ?_⟩
  have S4 := S3.adopt l4 o4
  have hpm := (S4.row 2 rfl).lenb
  rw [length_padR] at hpm
  have hgp : gapR n ≤ 63 := by unfold gapR; omega
  refine L_o (o_app te23 S4 1 rfl rfl rfl (by first | exact S4.rd ha | exact S4.row 1 rfl | exact S4.row 2 rfl) (by first | exact bL_one _ | exact iL_one _ | (intro u hu; simp at hu; subst hu; rfl) | (simp; done) | (simp [Value.oneCell']; done)) rfl (by omega) (by omega) fun A5 c5 w5 S5 => ?_)
  have S9 := (S5.rowc 1 rfl (n' := n + m4) (xs' := bL (l ++ padR l.length)) (by omega) (by rw [bL_app, hln]; rfl))
  have hal : (l ++ padR l.length).length = n + m4 := by rw [List.length_append, length_padR, hln, ← hpm]
  generalize hAL : l ++ padR l.length = al at S9 hal
  have hofl : ofL l = digL (stv al (al.length / 64)) := by rw [ofL, hAL]
  refine L_y (y_assign rfl) rfl ?_
  refine L_nil ?_
  refine hK4 _ _ ?_
  refine T_seq fun K5 hK5 => ?_
  refine T_region ?_
  refine L_o (o_call Try.func16 rfl rfl (refstart _) rfl rfl ?_)
  rintro e6 w6 ⟨v6, rfl, l6, rfl⟩
  refine ⟨_, rfl, ?_⟩
  have S6 := S9.like l6
  refine L_o (o_alloc zz35 S6 rfl fun b7 w7 hb7 S7 => ?_)
  refine L_o (o_stW S7 3 rfl rfl rfl (by exact sz35) (by rw [size_uA, list_8]; simp [Value.cells, uA, list_8]) (uA_one _) fun w8 S8 => ?_)
  refine L_nil ?_
  refine hK5 _ _ ?_
  refine T_seq fun K6 hK6 => ?_
  refine T_seq fun K7 hK7 => ?_
  refine T_region ?_
  refine L_y (y_assign rfl) rfl ?_
  refine L_nil ?_
  refine hK7 _ _ ?_
  refine T_block ?_
  refine T_loop1 [(2, _), (3, _), (4, _)] (fun (j : Nat) => [(5, .int .i64 ((64 * j : Nat) : Int))]) (fun (j : Nat) => al.length / 64 - j) (fun (j : Nat) (w : World) => j ≤ al.length / 64 ∧ Zx.St w0 noM [blk b1 30 (bA z32), row 5 1 A5 (n + m4) c5 (bL al), row 5 1 A4 m4 c4 (bL (padR n)), blk b7 35 (uA (stv al j).list)] w) 0 (Sub.cons rfl (by first | rfl | exact congrArg (Value.int _) (by omega)) (Sub.nil _)) (Sub.cons rfl rfl (Sub.cons rfl rfl (Sub.cons rfl rfl (Sub.nil _)))) ?_ ?_
  ·
    exact ⟨Nat.zero_le _, S8⟩
  ·
    intro j w9 hrel
    obtain ⟨hj, S9⟩ := hrel
    refine T_seq fun K8 hK8 => ?_
    refine T_seq fun K9 hK9 => ?_
    refine T_region ?_
    refine L_y (y_move rfl) rfl ?_
    refine L_y (y_add rfl rfl (i64w (by omega))) rfl ?_
    refine L_y (y_move rfl) rfl ?_
    refine L_y (y_len Try.underlying23 rfl) rfl ?_
    refine L_y (y_leq rfl rfl) rfl ?_
    refine L_nil ?_
    refine hK9 _ _ ?_
    refine T_cond rfl (fun h24 => ?_) (fun h24 => ?_)
    ·
      refine T_skip ?_
      refine hK8 _ _ ?_
      refine T_seq fun K10 hK10 => ?_
      refine T_block ?_
      refine T_tail 6 hmix (by kernel_rfl) fun w10 l10 K11 hK11 => ?_
      have S10 := S9.like l10
      refine HL_y (y_ldW Try.underlying35 rfl sz35 rfl (S10.blk 3 rfl) (whole8 _)) rfl ?_
      have hcc := (S10.row 1 rfl).cap
      refine HL_y (y_move rfl) rfl ?_
      refine HL_y (y_move rfl) rfl ?_
      refine HL_y (y_move rfl) rfl ?_
      refine HL_y (y_add rfl rfl (i64w (by omega))) rfl ?_
      refine HL_y (y_slice Try.underlying23 sz5 rfl rfl rfl inferInstance inferInstance (by omega) (by omega)) rfl ?_
      refine HL_nil ?_
      refine hK11 _ ?_
      have hc9 := (S10.row 1 rfl).cutb (l := 64 * j) (u := 64 * j + 64) (by omega) (by omega)
      have hblk : stv al (j + 1) = blockS (stv al j) ((al.drop (64 * j)).take (64 * j + 64 - 64 * j)) := by rw [show 64 * j + 64 - 64 * j = 64 by omega]; rfl
      refine L_o (o_call Try.func14 rfl rfl (refblock _ _ _ _ _ (by omega) _ hc9) rfl rfl ?_)
      rintro e11 w11 ⟨v11, rfl, l11, rfl⟩
      refine ⟨_, rfl, ?_⟩
      have S11 := S10.like l11
      refine L_o (o_stW S11 3 rfl rfl rfl (by exact sz35) (by rw [size_uA, list_8]; simp [Value.cells, uA, list_8]) (uA_one _) fun w12 S12 => ?_)
      refine L_nil ?_
      refine hK10 _ _ ?_
      refine T_region ?_
      refine L_y (y_move rfl) rfl ?_
      refine L_y (y_add rfl rfl (i64w (by omega))) rfl ?_
      refine L_y (y_assign rfl) rfl ?_
      refine L_nil ?_
      have S8 := S12.blkc (cs' := uA (stv al (j + 1)).list) 3 rfl (by rw [hblk])
      refine ⟨j + 1, by omega, ⟨by omega, S8⟩, ?_⟩
      exact (Sub.cons rfl (by first | rfl | exact congrArg (Value.int _) (by omega)) (Sub.cons rfl rfl (Sub.cons rfl rfl (Sub.cons rfl rfl (Sub.nil _)))))
    ·
      obtain rfl : j = al.length / 64 := by omega
      generalize hV : stv al (al.length / 64) = V at hofl S9 ⊢
      refine T_exit ?_
      refine hK6 _ _ ?_
      refine T_seq fun K12 hK12 => ?_
      refine T_region ?_
      refine L_o (o_alloc zz30 S9 rfl fun b13 w13 hb13 S13 => ?_)
      refine L_nil ?_
      refine hK12 _ _ ?_
      refine T_seq fun K13 hK13 => ?_
      refine T_seq fun K14 hK14 => ?_
      refine T_region ?_
      refine L_y (y_assign rfl) rfl ?_
      refine L_nil ?_
      refine hK14 _ _ ?_
      refine T_block ?_
      refine T_loop1 [(2, _), (4, _), (6, _)] (fun (k : Nat) => [(7, .int .i64 (k : Int))]) (fun (k : Nat) => 8 - k) (fun (k : Nat) (w : World) => k ≤ 8 ∧ Zx.St w0 noM [blk b1 30 (bA z32), row 5 1 A5 (n + m4) c5 (bL al), row 5 1 A4 m4 c4 (bL (padR n)), blk b7 35 (uA V.list), blk b13 30 (bA (idU V k))] w) 0 (Sub.cons rfl (by first | rfl | exact congrArg (Value.int _) (by omega)) (Sub.nil _)) (Sub.cons rfl rfl (Sub.cons rfl rfl (Sub.cons rfl rfl (Sub.nil _)))) ?_ ?_
      ·
        exact ⟨by omega, S13⟩
      ·
        intro k w14 hrel
        obtain ⟨hk, S14⟩ := hrel
        refine T_seq fun K15 hK15 => ?_
        refine T_seq fun K16 hK16 => ?_
        refine T_region ?_
        refine L_y (y_move rfl) rfl ?_
        refine L_y (y_lss rfl rfl) rfl ?_
        refine L_nil ?_
        refine hK16 _ _ ?_
        refine T_cond rfl (fun h35 => ?_) (fun h35 => ?_)
        ·
          refine T_skip ?_
          refine hK15 _ _ ?_
          refine T_seq fun K17 hK17 => ?_
          refine T_block ?_
          refine T_seq fun K18 hK18 => ?_
          refine T_region ?_
          refine L_y (y_move rfl) rfl ?_
          refine L_y (y_idxA0 Try.underlying35 sz34 rfl rfl inferInstance (by omega)) rfl ?_
          refine L_y (y_ldc Try.underlying34 rfl rfl (((S14.blk 3 rfl).cell _).trans (uA_get' _ _ (by rw [list_8]; omega)))) rfl ?_
          refine L_y (y_assign rfl) rfl ?_
          refine L_nil ?_
          refine hK18 _ _ ?_
          refine T_seq fun K19 hK19 => ?_
          refine T_region ?_
          refine L_y (y_assign rfl) rfl ?_
          refine L_nil ?_
          refine hK19 _ _ ?_
          refine T_block ?_
          refine T_loop1 [(2, _), (4, _), (6, _), (7, _)] (fun (q : Nat) => [(8, .int .u32 (N (V.list.getD k 0) / 256 ^ q)), (9, .int .i64 (3 - (q : Int)))]) (fun (q : Nat) => 4 - q) (fun (q : Nat) (w : World) => q ≤ 4 ∧ Zx.St w0 noM [blk b1 30 (bA z32), row 5 1 A5 (n + m4) c5 (bL al), row 5 1 A4 m4 c4 (bL (padR n)), blk b7 35 (uA V.list), blk b13 30 (bA (idR V k q))] w) 0 (Sub.cons rfl (by first | rfl | exact congrArg (Value.int _) (by simp)) (Sub.cons rfl (by first | rfl | exact congrArg (Value.int _) (by simp)) (Sub.nil _))) (Sub.cons rfl rfl (Sub.cons rfl rfl (Sub.cons rfl rfl (Sub.cons rfl rfl (Sub.nil _))))) ?_ ?_
          ·
            exact ⟨by omega, S14.blkc 4 rfl (congrArg bA (idR_0 V k (by omega)).symm)⟩
          ·
            intro q w15 hrel
            obtain ⟨hq, S15⟩ := hrel
            have hnd := N_div (V.list.getD k 0) q
            refine T_seq fun K20 hK20 => ?_
            refine T_seq fun K21 hK21 => ?_
            refine T_region ?_
            refine L_y (y_move rfl) rfl ?_
            refine L_y (y_geq rfl rfl) rfl ?_
            refine L_nil ?_
            refine hK21 _ _ ?_
            refine T_cond rfl (fun h42 => ?_) (fun h42 => ?_)
            ·
              refine T_skip ?_
              refine hK20 _ _ ?_
              refine T_seq fun K22 hK22 => ?_
              refine T_block ?_
              refine T_seq fun K23 hK23 => ?_
              refine T_region ?_
              refine L_y (y_move rfl) rfl ?_
              refine L_y (y_mul rfl rfl (i64w (by omega))) rfl ?_
              refine L_y (y_move rfl) rfl ?_
              refine L_y (y_add rfl rfl (i64w (by omega))) rfl ?_
              refine L_y (y_move rfl) rfl ?_
              refine L_y (y_rem rfl rfl (by omega) (remI (by omega))) rfl ?_
              refine L_y (y_conv is34 Try.underlying5 rfl (IntKind.wrap_u8 _)) rfl ?_
              refine L_y (y_idxA0 Try.underlying30 sz5 rfl rfl (Nt.mk (by omega) : Nt _ (4 * k + (3 - q))) (by omega)) rfl ?_
              refine L_o (o_st1 S15 4 rfl rfl rfl rfl sz5 (by rw [size_bA, length_idR V k q (by omega) (by omega)]; omega) fun w16 S16 => ?_)
              refine L_nil ?_
              refine hK23 _ _ ?_
              refine T_region ?_
              refine L_y (y_move rfl) rfl ?_
              refine L_y (y_quo rfl rfl (by omega) (quo32 (by omega) (by omega))) rfl ?_
              refine L_y (y_assign rfl) rfl ?_
              refine L_nil ?_
              refine hK22 _ _ ?_
              refine T_region ?_
              refine L_y (y_move rfl) rfl ?_
              refine L_y (y_sub rfl rfl (i64w (by omega))) rfl ?_
              refine L_y (y_assign rfl) rfl ?_
              refine L_nil ?_
              have S8 := S16.blkc 4 rfl (idR_set V k q (by omega) (by omega))
              refine ⟨q + 1, by omega, ⟨by omega, S8⟩, ?_⟩
              exact (Sub.cons rfl (congrArg (Value.int _) (divq _ _)) (Sub.cons rfl (congrArg (Value.int _) (by omega)) (Sub.cons rfl rfl (Sub.cons rfl rfl (Sub.cons rfl rfl (Sub.cons rfl rfl (Sub.nil _)))))))
            ·
              obtain rfl : q = 4 := by omega
              refine T_exit ?_
              refine hK17 _ _ ?_
              refine T_region ?_
              refine L_y (y_move rfl) rfl ?_
              refine L_y (y_add rfl rfl (i64w (by omega))) rfl ?_
              refine L_y (y_assign rfl) rfl ?_
              refine L_nil ?_
              have S8 := S15.blkc 4 rfl (congrArg bA (idR_4 V k (by omega)))
              refine ⟨k + 1, by omega, ⟨by omega, S8⟩, ?_⟩
              exact (Sub.cons rfl (by first | rfl | exact congrArg (Value.int _) (by omega)) (Sub.cons rfl rfl (Sub.cons rfl rfl (Sub.cons rfl rfl (Sub.nil _)))))
        ·
          obtain rfl : k = 8 := by omega
          refine T_exit ?_
          refine hK13 _ _ ?_
          refine T_seq fun K24 hK24 => ?_
          refine T_region ?_
          refine L_y (y_ldW (size := 32) (vs := bL (digL V)) Try.underlying30 rfl sz30 rfl (S14.blk 4 rfl) ⟨by rw [List.drop_zero, idU_8]; exact List.take_of_length_le (by rw [Array.length_toList, size_bA, length_digL]; omega), by rw [length_bL, length_digL]⟩) rfl ?_
          refine L_o (o_stW S14 0 rfl rfl rfl (by rw [List.size_toArray, length_bL, length_digL]; exact sz30) (by rw [List.size_toArray, length_bL, length_digL]; simp [bA, z32]) (bL_one _) fun w17 S17 => ?_)
          refine L_nil ?_
          refine hK24 _ _ ?_
          refine T_ret ?_
          repeat (first | with_reducible refine up_then ?_ | with_reducible refine up_in ?_)
          refine retc rfl rfl (S17.blk 0 rfl) Try.underlying30 rfl (by rw [List.size_toArray, length_bL, length_digL]; exact sz30) ?_
          exact ⟨_, rfl, S17.like0, by rw [hofl]; rfl⟩
end Go.Proofs.Ytanelemeljbbcaa
