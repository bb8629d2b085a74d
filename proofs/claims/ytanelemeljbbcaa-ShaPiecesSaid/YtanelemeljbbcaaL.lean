/-
  Sum, by package sha.
-/
import Derived.Test.YtanelemeljbbcaaK
namespace Go.Proofs.Ytanelemeljbbcaa
open Go.RowKit Zk Zx
set_option linter.unusedVariables false
set_option linter.unusedSimpArgs false

/-- A number of 32 bits as bytes, the highest first. -/
def be4 (x : UInt32) : List UInt8 := [UInt8.ofNat (x.toNat / 16777216 % 256), UInt8.ofNat (x.toNat / 65536 % 256), UInt8.ofNat (x.toNat / 256 % 256), UInt8.ofNat (x.toNat % 256)]
def digL (v : Go.Proofs.Ytanelemeljbbcaa.St) : List UInt8 := v.list.flatMap be4
theorem length_be4 (l : List UInt32) : (l.flatMap be4).length = 4 * l.length := by
  induction l with
  | nil => rfl
  | cons x l ih => simp only [List.flatMap_cons, List.length_append, ih, List.length_cons]; simp [be4]; omega
theorem length_digL (v : Go.Proofs.Ytanelemeljbbcaa.St) : (digL v).length = 32 := by rw [digL, length_be4, list_8]
/-- The first i numbers laid. -/
def idU (v : Go.Proofs.Ytanelemeljbbcaa.St) (i : Nat) : List UInt8 := (v.list.take i).flatMap be4 ++ List.replicate (32 - 4 * i) 0
theorem length_idU (v : Go.Proofs.Ytanelemeljbbcaa.St) (i : Nat) (h : i ≤ 8) : (idU v i).length = 32 := by
  simp only [idU, List.length_append, length_be4, List.length_take, list_8, List.length_replicate]
  omega
theorem idU_8 (v : Go.Proofs.Ytanelemeljbbcaa.St) : idU v 8 = digL v := by
  simp [idU, digL, Go.Proofs.Ytanelemeljbbcaa.St.list]
theorem bA_set (l : List UInt8) (k : Nat) (c : UInt8) (x : Int) (hx : x = (c.toNat : Int)) : (bA l).setIfInBounds k (.int .u8 x) = bA (l.set k c) := by
  subst hx
  simp only [bA, bL, List.setIfInBounds_toArray, List.map_set]
  rfl
theorem take_next (v : Go.Proofs.Ytanelemeljbbcaa.St) (i : Nat) (h : i < 8) : (v.list.take (i + 1)).flatMap be4 = (v.list.take i).flatMap be4 ++ be4 (v.list.getD i 0) := by
  rw [List.take_succ_eq_append_getElem (by rw [list_8]; exact h), List.flatMap_append]
  simp [List.getD_eq_getElem?_getD, List.getElem?_eq_getElem (show i < v.list.length by rw [list_8]; exact h)]
theorem set4 (pre post : List UInt8) (a b c d : UInt8) (k : Nat) (hk : pre.length = k) :
    ((((pre ++ 0 :: 0 :: 0 :: 0 :: post).set k a).set (k + 1) b).set (k + 2) c).set (k + 3) d = pre ++ [a, b, c, d] ++ post := by
  subst hk
  rw [List.set_append_right _ _ (by omega), List.set_append_right _ _ (by omega), List.set_append_right _ _ (by omega), List.set_append_right _ _ (by omega)]
  simp
theorem idU_set (v : Go.Proofs.Ytanelemeljbbcaa.St) (i : Nat) (h : i < 8) :
    (((((bA (idU v i)).setIfInBounds (4 * i) (.int .u8 (N (v.list.getD i 0) / 16777216 % 256))).setIfInBounds (4 * i + 1) (.int .u8 (N (v.list.getD i 0) / 65536 % 256))).setIfInBounds (4 * i + 2) (.int .u8 (N (v.list.getD i 0) / 256 % 256))).setIfInBounds (4 * i + 3) (.int .u8 (N (v.list.getD i 0) % 256))) = bA (idU v (i + 1)) := by
  generalize hx : v.list.getD i 0 = x
  rw [bA_set _ _ (UInt8.ofNat (x.toNat / 16777216 % 256)) _ (by rw [UInt8.toNat_ofNat']; unfold N; omega), bA_set _ _ (UInt8.ofNat (x.toNat / 65536 % 256)) _ (by rw [UInt8.toNat_ofNat']; unfold N; omega),
    bA_set _ _ (UInt8.ofNat (x.toNat / 256 % 256)) _ (by rw [UInt8.toNat_ofNat']; unfold N; omega), bA_set _ _ (UInt8.ofNat (x.toNat % 256)) _ (by rw [UInt8.toNat_ofNat']; unfold N; omega)]
  congr 1
  have e : List.replicate (32 - 4 * i) (0 : UInt8) = 0 :: 0 :: 0 :: 0 :: List.replicate (32 - 4 * (i + 1)) 0 := by
    rw [show 32 - 4 * i = (32 - 4 * (i + 1)) + 1 + 1 + 1 + 1 by omega]
    simp [List.replicate_succ]
  unfold idU
  rw [e, set4 _ _ _ _ _ _ (4 * i) (by rw [length_be4, List.length_take, list_8]; omega), take_next v i h, hx]
  simp [be4]
/-- The sum of l. -/
def ofL (l : List UInt8) : List UInt8 := digL (stv (l ++ padR l.length) ((l ++ padR l.length).length / 64))
theorem shrF (x : UInt32) (k p : Nat) (hk : k ≤ 32) (hp : 2 ^ k = p) : Int.fdiv (N x) (2 ^ (min ((k : Nat) : Int).toNat IntKind.u32.bits)) = N x / (p : Int) := by
  have e : min ((k : Nat) : Int).toNat IntKind.u32.bits = k := by simp only [IntKind.bits]; omega
  rw [e, Int.fdiv_eq_ediv_of_nonneg _ (Int.pow_nonneg (by omega)), ← hp]
  simp


theorem hashA_one (n : Nat) (v : Go.Proofs.Ytanelemeljbbcaa.St) (rest : List UInt8) : ∀ u ∈ (hashA n v rest).toList, u.oneCell' = true := by
  intro u hu
  rw [hashA_split] at hu
  rcases List.mem_append.1 hu with h | h
  · rcases List.mem_cons.1 h with rfl | h
    · rfl
    · rcases List.mem_cons.1 h with rfl | h
      · rfl
      · exact uL_one _ u h
  · exact bL_one _ u h
def z32 : List UInt8 := List.replicate 32 0
set_option maxRecDepth 100000 in
set_option maxHeartbeats 1000000 in
theorem sum (g : Nat) (l : List UInt8) (cs : Array Value) (w0 : World) (hb : Blk w0 g 53 cs) (hs : HS l cs) (hlen : l.length ≤ 100000) :
    Calls Try.prog 19 #[.pointer (some ⟨g, 0, none⟩)] w0 fun e w' => ∃ u, e = .returned u ∧ Like w0 w' ∧ u = .agg (bA (ofL l)) := by
  obtain ⟨rest, h64, hr, rfl⟩ := hs
  refine enter1 (env := [(0, .pointer (some ⟨g, 0, none⟩))]) [.pointer (some ⟨g, 0, none⟩)] Try.func19 rfl Try.ntmps19 rfl rfl ?_
  have S0 := St.start w0 noM
  refine T_seq fun K1 hK1 => ?_
  refine T_region ?_
  refine L_o (o_alloc zz30 S0 rfl fun b1 w1 hb1 S1 => ?_)
  refine L_nil ?_
  refine hK1 _ _ ?_
  refine T_seq fun K2 hK2 => ?_
  refine T_seq fun K3 hK3 => ?_
  refine T_region ?_
  refine L_y (y_move rfl) rfl ?_
  refine L_y (y_peqn Try.underlying42 rfl) rfl ?_
  refine L_y (y_move rfl) rfl ?_
  refine L_gyes rfl rfl ?_
  refine L_y (y_move rfl) rfl ?_
  refine L_gyes rfl rfl ?_
  refine L_y (y_nilp rfl) rfl ?_
  refine L_gyes rfl rfl ?_
  refine L_y (y_fieldA 0 Try.underlying53 rfl sz4 rfl rfl rfl) rfl ?_
  refine L_gyes rfl rfl ?_
  refine L_y (y_ldc Try.underlying4 rfl rfl (((S1.rdB hb).cell _).trans (by rfl))) rfl ?_
  refine L_gyes rfl rfl ?_
  refine L_y ((by first | exact y_notD rfl | exact y_not rfl)) rfl ?_
  refine L_y ((by first | exact y_pickT rfl rfl | exact y_pickF rfl rfl)) rfl ?_
  refine L_nil ?_
  refine hK3 _ _ ?_
  refine T_false rfl ?_
  refine T_skip ?_
  refine hK2 _ _ ?_
  refine T_seq fun K4 hK4 => ?_
  refine T_region ?_
  refine L_y (y_move rfl) rfl ?_
  refine L_y (y_nilp rfl) rfl ?_
  refine L_y (y_ldW (size := 74) (vs := (hashA l.length (stv l (l.length / 64)) rest).toList) Try.underlying53 rfl sz53 rfl (S1.rdB hb) ⟨by rw [List.drop_zero]; exact List.take_of_length_le (by simp [hashA_size, h64]), by simp [hashA_size, h64]⟩) rfl ?_
  refine L_o (o_alloc zz53 S1 rfl fun b2 w2 hb2 S2 => ?_)
  refine L_o (o_stW S2 1 rfl rfl rfl (by rw [List.size_toArray, Array.length_toList, hashA_size, h64]; exact sz53) (by rw [List.size_toArray, Array.length_toList, hashA_size, h64]; simp [Value.cells]) (hashA_one _ _ _) fun w3 S3 => ?_)
  refine L_nil ?_
  refine hK4 _ _ ?_
  refine T_seq fun K5 hK5 => ?_
  refine T_region ?_
  refine L_y (y_move rfl) rfl ?_
  refine L_y (y_nilp rfl) rfl ?_
  refine L_y (y_fieldA 1 Try.underlying53 rfl sz22 rfl rfl rfl) rfl ?_
  refine L_y (y_ldc Try.underlying22 rfl rfl (((S3.rdB hb).cell _).trans (by rfl))) rfl ?_
  refine L_o (o_call Try.func7 rfl rfl (shapad l.length (by omega) _) rfl rfl ?_)
  rintro e4 w4 ⟨v4, rfl, l4, A4, m4, c4, rfl, o4⟩
  refine ⟨_, rfl, ?_⟩
  have S4 := S3.adopt l4 o4
  have hpm := (S4.row 2 rfl).lenb
  rw [length_padR] at hpm
  have hgp : gapR l.length ≤ 63 := by unfold gapR; omega
  refine L_o (o_call Try.func18 rfl rfl (write _ l (padR l.length) _ _ _ _ _ (S4.blk 1 rfl) ⟨rest, h64, hr, rfl⟩ (S4.row 2 rfl) (S4.row_ne 2 1 rfl rfl rfl) (by omega)) rfl rfl ?_)
  rintro e5 w5 ⟨u5, rfl, hgb, cs', hB', rest2, h642, hr2, rfl⟩
  refine ⟨_, rfl, ?_⟩
  have S5 := S4.wrote (r' := blk _ _ _) 1 rfl (fun i => Iff.rfl) (fun i h => h) hgb hB'
  have hBv := S5.blk 1 rfl
  generalize hV : stv (l ++ padR l.length) ((l ++ padR l.length).length / 64) = V at hBv S5
  refine L_nil ?_
  refine hK5 _ _ ?_
  refine T_seq fun K6 hK6 => ?_
  refine T_region ?_
  refine L_o (o_alloc zz30 S5 rfl fun b6 w6 hb6 S6 => ?_)
  refine L_nil ?_
  refine hK6 _ _ ?_
  refine T_seq fun K7 hK7 => ?_
  refine T_seq fun K8 hK8 => ?_
  refine T_region ?_
  refine L_y (y_fieldA 2 Try.underlying53 rfl sz35 rfl rfl rfl) rfl ?_
  refine L_y (y_ldW Try.underlying35 rfl sz35 rfl (S6.blk 1 rfl) ⟨hashA_state _ _ _, by simp [Go.Proofs.Ytanelemeljbbcaa.St.list]⟩) rfl ?_
  refine L_y (y_move rfl) rfl ?_
  refine L_nil ?_
  refine hK8 _ _ ?_
  refine T_block ?_
  refine T_loop1 [(2, _), (4, _), (27, _)] (fun (i : Nat) => [(28, .int .i64 (i : Int))]) (fun (i : Nat) => 8 - i) (fun (i : Nat) (w : World) => i ≤ 8 ∧ Zx.St w0 noM [blk b1 30 (bA z32), blk b2 53 (hashA (l ++ padR l.length).length V rest2), row 5 1 A4 m4 c4 (bL (padR l.length)), blk b6 30 (bA (idU V i))] w) 0 (Sub.cons rfl (by first | rfl | exact congrArg (Value.int _) (by omega)) (Sub.nil _)) (Sub.cons rfl rfl (Sub.cons rfl rfl (Sub.cons rfl rfl (Sub.nil _)))) ?_ ?_
  ·
    exact ⟨by omega, S6⟩
  ·
    intro i w7 hrel
    obtain ⟨hi, S7⟩ := hrel
    refine T_seq fun K9 hK9 => ?_
    refine T_region ?_
    refine L_y (y_lss rfl rfl) rfl ?_
    refine L_nil ?_
    refine hK9 _ _ ?_
    refine T_seq fun K10 hK10 => ?_
    refine T_cond rfl (fun h29 => ?_) (fun h29 => ?_)
    ·
      refine T_skip ?_
      refine hK10 _ _ ?_
      refine T_seq fun K11 hK11 => ?_
      refine T_block ?_
      refine T_seq fun K12 hK12 => ?_
      refine T_region ?_
      refine L_y (y_move rfl) rfl ?_
      refine L_y (y_idxV Try.underlying35 Try.underlying34 rfl sz34 rfl rfl inferInstance (by omega) (uA_get' _ _ (by rw [list_8]; omega))) rfl ?_
      refine L_y (y_assign rfl) rfl ?_
      refine L_y (y_assign rfl) rfl ?_
      refine L_nil ?_
      refine hK12 _ _ ?_
      refine T_region ?_
      refine L_y (y_move rfl) rfl ?_
      refine L_y (y_mul rfl rfl (i64w (by omega))) rfl ?_
      refine L_y (y_move rfl) rfl ?_
      refine L_y (y_mul rfl rfl (i64w (by omega))) rfl ?_
      refine L_y (y_add rfl rfl (i64w (by omega))) rfl ?_
      refine L_y (y_move rfl) rfl ?_
      refine L_y (y_mul rfl rfl (i64w (by omega))) rfl ?_
      refine L_y (y_add rfl rfl (i64w (by omega))) rfl ?_
      refine L_y (y_move rfl) rfl ?_
      refine L_y (y_mul rfl rfl (i64w (by omega))) rfl ?_
      refine L_y (y_add rfl rfl (i64w (by omega))) rfl ?_
      refine L_y (y_move rfl) rfl ?_
      refine L_y (y_shr rfl rfl (by omega) (shrF _ 24 16777216 (by omega) rfl)) rfl ?_
      refine L_y (y_conv is34 Try.underlying5 rfl (IntKind.wrap_u8 _)) rfl ?_
      refine L_y (y_move rfl) rfl ?_
      refine L_y (y_shr rfl rfl (by omega) (shrF _ 16 65536 (by omega) rfl)) rfl ?_
      refine L_y (y_conv is34 Try.underlying5 rfl (IntKind.wrap_u8 _)) rfl ?_
      refine L_y (y_move rfl) rfl ?_
      refine L_y (y_shr rfl rfl (by omega) (shrF _ 8 256 (by omega) rfl)) rfl ?_
      refine L_y (y_conv is34 Try.underlying5 rfl (IntKind.wrap_u8 _)) rfl ?_
      refine L_y (y_move rfl) rfl ?_
      refine L_y (y_conv is34 Try.underlying5 rfl (IntKind.wrap_u8 _)) rfl ?_
      refine L_y (y_idxA0 Try.underlying30 sz5 rfl rfl inferInstance (by omega)) rfl ?_
      refine L_o (o_st1 S7 3 rfl rfl rfl rfl sz5 (by simp [bA, bL, length_idU V i (by omega)]; omega) fun w8 S8 => ?_)
      refine L_y (y_idxA0 Try.underlying30 sz5 rfl rfl inferInstance (by omega)) rfl ?_
      refine L_o (o_st1 S8 3 rfl rfl rfl rfl sz5 (by simp [bA, bL, length_idU V i (by omega)]; omega) fun w9 S9 => ?_)
      refine L_y (y_idxA0 Try.underlying30 sz5 rfl rfl inferInstance (by omega)) rfl ?_
      refine L_o (o_st1 S9 3 rfl rfl rfl rfl sz5 (by simp [bA, bL, length_idU V i (by omega)]; omega) fun w10 S10 => ?_)
      refine L_y (y_idxA0 Try.underlying30 sz5 rfl rfl inferInstance (by omega)) rfl ?_
      refine L_o (o_st1 S10 3 rfl rfl rfl rfl sz5 (by simp [bA, bL, length_idU V i (by omega)]; omega) fun w11 S11 => ?_)
      refine L_nil ?_
      refine hK11 _ _ ?_
      refine T_region ?_
      refine L_y (y_add rfl rfl (i64w (by omega))) rfl ?_
      refine L_y (y_move rfl) rfl ?_
      refine L_nil ?_
      have S9 := S11.blkc 3 rfl (idU_set V i (by omega))
      refine ⟨i + 1, by omega, ⟨by omega, S9⟩, ?_⟩
      exact (Sub.cons rfl (by first | rfl | exact congrArg (Value.int _) (by omega)) (Sub.cons rfl rfl (Sub.cons rfl rfl (Sub.cons rfl rfl (Sub.nil _)))))
    ·
      obtain rfl : i = 8 := by omega
      refine T_exit ?_
      refine hK7 _ _ ?_
      refine T_seq fun K13 hK13 => ?_
      refine T_region ?_
      refine L_y (y_ldW (size := 32) (vs := bL (digL V)) Try.underlying30 rfl sz30 rfl (S7.blk 3 rfl) ⟨by rw [List.drop_zero, idU_8]; exact List.take_of_length_le (by rw [Array.length_toList, size_bA, length_digL]; omega), by rw [length_bL, length_digL]⟩) rfl ?_
      refine L_o (o_stW S7 0 rfl rfl rfl (by rw [List.size_toArray, length_bL, length_digL]; exact sz30) (by rw [List.size_toArray, length_bL, length_digL]; simp [bA, z32]) (bL_one _) fun w12 S12 => ?_)
      refine L_nil ?_
      refine hK13 _ _ ?_
      refine T_ret ?_
      repeat (first | with_reducible refine up_then ?_ | with_reducible refine up_in ?_)
      refine retc rfl rfl (S12.blk 0 rfl) Try.underlying30 rfl (by rw [List.size_toArray, length_bL, length_digL]; exact sz30) ?_
      exact ⟨_, rfl, S12.like0, by rw [ofL, hV]; rfl⟩
end Go.Proofs.Ytanelemeljbbcaa
