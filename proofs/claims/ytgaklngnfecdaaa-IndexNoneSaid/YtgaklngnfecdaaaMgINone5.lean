import Derived.Test.YtgaklngnfecdaaaMgINone4
import Derived.Test.YtgaklngnfecdaaaMgINone1
import Derived.Test.YtgaklngnfecdaaaMgINone3
import Derived.Test.YtgaklngnfecdaaaMgINone2

/-
  Sum, by package sha.
-/
namespace Go.Proofs.Ytgaklngnfecdaaa.Sha
open Go.RowKit Zk Zx
set_option linter.unusedVariables false
set_option linter.unusedSimpArgs false

/-- A number of 32 bits as bytes, the highest first. -/
def be4 (x : UInt32) : List UInt8 := [UInt8.ofNat (x.toNat / 16777216 % 256), UInt8.ofNat (x.toNat / 65536 % 256), UInt8.ofNat (x.toNat / 256 % 256), UInt8.ofNat (x.toNat % 256)]
def digL (v : Go.Proofs.Ytgaklngnfecdaaa.Sha.St) : List UInt8 := v.list.flatMap be4
theorem length_be4 (l : List UInt32) : (l.flatMap be4).length = 4 * l.length := by
  induction l with
  | nil => rfl
  | cons x l ih => simp only [List.flatMap_cons, List.length_append, ih, List.length_cons]; simp [be4]; omega
theorem length_digL (v : Go.Proofs.Ytgaklngnfecdaaa.Sha.St) : (digL v).length = 32 := by rw [digL, length_be4, list_8]
/-- The first i numbers laid. -/
def idU (v : Go.Proofs.Ytgaklngnfecdaaa.Sha.St) (i : Nat) : List UInt8 := (v.list.take i).flatMap be4 ++ List.replicate (32 - 4 * i) 0
theorem length_idU (v : Go.Proofs.Ytgaklngnfecdaaa.Sha.St) (i : Nat) (h : i ≤ 8) : (idU v i).length = 32 := by
  simp only [idU, List.length_append, length_be4, List.length_take, list_8, List.length_replicate]
  omega
theorem idU_8 (v : Go.Proofs.Ytgaklngnfecdaaa.Sha.St) : idU v 8 = digL v := by
  simp [idU, digL, Go.Proofs.Ytgaklngnfecdaaa.Sha.St.list]
theorem bA_set (l : List UInt8) (k : Nat) (c : UInt8) (x : Int) (hx : x = (c.toNat : Int)) : (bA l).setIfInBounds k (.int .u8 x) = bA (l.set k c) := by
  subst hx
  simp only [bA, bL, List.setIfInBounds_toArray, List.map_set]
  rfl
theorem take_next (v : Go.Proofs.Ytgaklngnfecdaaa.Sha.St) (i : Nat) (h : i < 8) : (v.list.take (i + 1)).flatMap be4 = (v.list.take i).flatMap be4 ++ be4 (v.list.getD i 0) := by
  rw [List.take_succ_eq_append_getElem (by rw [list_8]; exact h), List.flatMap_append]
  simp [List.getD_eq_getElem?_getD, List.getElem?_eq_getElem (show i < v.list.length by rw [list_8]; exact h)]
theorem set4 (pre post : List UInt8) (a b c d : UInt8) (k : Nat) (hk : pre.length = k) :
    ((((pre ++ 0 :: 0 :: 0 :: 0 :: post).set k a).set (k + 1) b).set (k + 2) c).set (k + 3) d = pre ++ [a, b, c, d] ++ post := by
  subst hk
  rw [List.set_append_right _ _ (by omega), List.set_append_right _ _ (by omega), List.set_append_right _ _ (by omega), List.set_append_right _ _ (by omega)]
  simp
theorem idU_set (v : Go.Proofs.Ytgaklngnfecdaaa.Sha.St) (i : Nat) (h : i < 8) :
    (((((bA (idU v i)).setIfInBounds (4 * i) (.int .u8 (N (v.list.getD i 0) / 16777216 % 256))).setIfInBounds (4 * i + 1) (.int .u8 (N (v.list.getD i 0) / 65536 % 256))).setIfInBounds (4 * i + 2) (.int .u8 (N (v.list.getD i 0) / 256 % 256))).setIfInBounds (4 * i + 3) (.int .u8 (N (v.list.getD i 0) % 256))) = bA (idU v (i + 1)) := by
  generalize hx : v.list.getD i 0 = x
  rw [bA_set _ _ (UInt8.ofNat (x.toNat / 16777216 % 256)) _ (by rw [UInt8.toNat_ofNat']; unfold N; omega), bA_set _ _ (UInt8.ofNat (x.toNat / 65536 % 256)) _ (by rw [UInt8.toNat_ofNat']; unfold N; omega),
    bA_set _ _ (UInt8.ofNat (x.toNat / 256 % 256)) _ (by rw [UInt8.toNat_ofNat']; unfold N; omega), bA_set _ _ (UInt8.ofNat (x.toNat % 256)) _ (by rw [UInt8.toNat_ofNat']; unfold N; omega)]
  congr 1
  have e : List.replicate (32 - 4 * i) (0 : UInt8) = 0 :: 0 :: 0 :: 0 :: List.replicate (32 - 4 * (i + 1)) 0 := by
    rw [show 32 - 4 * i = (32 - 4 * (i + 1)) + 1 + 1 + 1 + 1 by omega]
    simp [List.replicate_succ]
  unfold idU
  rw [e, set4 _ _ _ _ _ _ (4 * i) (by rw [length_be4, List.length_take, list_8]; omega), take_next v i h, hx]
  simp [be4]
/-- The sum of l. -/
def ofL (l : List UInt8) : List UInt8 := digL (stv (l ++ padR l.length) ((l ++ padR l.length).length / 64))
theorem shrF (x : UInt32) (k p : Nat) (hk : k ≤ 32) (hp : 2 ^ k = p) : Int.fdiv (N x) (2 ^ (min ((k : Nat) : Int).toNat IntKind.u32.bits)) = N x / (p : Int) := by
  have e : min ((k : Nat) : Int).toNat IntKind.u32.bits = k := by simp only [IntKind.bits]; omega
  rw [e, Int.fdiv_eq_ediv_of_nonneg _ (Int.pow_nonneg (by omega)), ← hp]
  simp


theorem hashA_one (n : Nat) (v : Go.Proofs.Ytgaklngnfecdaaa.Sha.St) (rest : List UInt8) : ∀ u ∈ (hashA n v rest).toList, u.oneCell' = true := by
  intro u hu
  rw [hashA_split] at hu
  rcases List.mem_append.1 hu with h | h
  · rcases List.mem_cons.1 h with rfl | h
    · rfl
    · rcases List.mem_cons.1 h with rfl | h
      · rfl
      · exact uL_one _ u h
  · exact bL_one _ u h
def z32 : List UInt8 := List.replicate 32 0
set_option maxRecDepth 100000 in
set_option maxHeartbeats 1000000 in
theorem sum (g : Nat) (l : List UInt8) (cs : Array Value) (w0 : World) (hb : Blk w0 g 220 cs) (hs : HS l cs) (hlen : l.length ≤ 100000) :
    Calls Try.prog 118 #[.pointer (some ⟨g, 0, none⟩)] w0 fun e w' => ∃ u, e = .returned u ∧ Like w0 w' ∧ u = .agg (bA (ofL l)) := by
  obtain ⟨rest, h64, hr, rfl⟩ := hs
  refine enter1 (env := [(0, .pointer (some ⟨g, 0, none⟩))]) [.pointer (some ⟨g, 0, none⟩)] Try.func118 rfl Try.ntmps118 rfl rfl ?_
  have S0 := St.start w0 noM
  refine T_seq fun K1 hK1 => ?_
  refine T_region ?_
  refine L_o (o_alloc zz23 S0 rfl fun b1 w1 hb1 S1 => ?_)
  refine L_nil ?_
  refine hK1 _ _ ?_
  refine T_seq fun K2 hK2 => ?_
  refine T_seq fun K3 hK3 => ?_
  refine T_region ?_
  refine L_y (y_move rfl) rfl ?_
  refine L_y (y_peqn Try.underlying181 rfl) rfl ?_
  refine L_y (y_move rfl) rfl ?_
  refine L_gyes rfl rfl ?_
  refine L_y (y_move rfl) rfl ?_
  refine L_gyes rfl rfl ?_
  refine L_y (y_nilp rfl) rfl ?_
  refine L_gyes rfl rfl ?_
  refine L_y (y_fieldA 0 Try.underlying220 rfl sz4 rfl rfl rfl) rfl ?_
  refine L_gyes rfl rfl ?_
  refine L_y (y_ldc Try.underlying4 rfl rfl (((S1.rdB hb).cell _).trans (by rfl))) rfl ?_
  refine L_gyes rfl rfl ?_
  refine L_y ((by first | exact y_notD rfl | exact y_not rfl)) rfl ?_
  refine L_y ((by first | exact y_pickT rfl rfl | exact y_pickF rfl rfl)) rfl ?_
  refine L_nil ?_
  refine hK3 _ _ ?_
  refine T_false rfl ?_
  refine T_skip ?_
  refine hK2 _ _ ?_
  refine T_seq fun K4 hK4 => ?_
  refine T_region ?_
  refine L_y (y_move rfl) rfl ?_
  refine L_y (y_nilp rfl) rfl ?_
  refine L_y (y_ldW (size := 74) (vs := (hashA l.length (stv l (l.length / 64)) rest).toList) Try.underlying220 rfl sz220 rfl (S1.rdB hb) ⟨by rw [List.drop_zero]; exact List.take_of_length_le (by simp [hashA_size, h64]), by simp [hashA_size, h64]⟩) rfl ?_
  refine L_o (o_alloc zz220 S1 rfl fun b2 w2 hb2 S2 => ?_)
  refine L_o (o_stW S2 1 rfl rfl rfl (by rw [List.size_toArray, Array.length_toList, hashA_size, h64]; exact sz220) (by rw [List.size_toArray, Array.length_toList, hashA_size, h64]; simp [Value.cells]) (hashA_one _ _ _) fun w3 S3 => ?_)
  refine L_nil ?_
  refine hK4 _ _ ?_
  refine T_seq fun K5 hK5 => ?_
  refine T_region ?_
  refine L_y (y_move rfl) rfl ?_
  refine L_y (y_nilp rfl) rfl ?_
  refine L_y (y_fieldA 1 Try.underlying220 rfl sz127 rfl rfl rfl) rfl ?_
  refine L_y (y_ldc Try.underlying127 rfl rfl (((S3.rdB hb).cell _).trans (by rfl))) rfl ?_
  refine L_o (o_call Try.func157 rfl rfl (shapad l.length (by omega) _) rfl rfl ?_)
  rintro e4 w4 ⟨v4, rfl, l4, A4, m4, c4, rfl, o4⟩
  refine ⟨_, rfl, ?_⟩
  have S4 := S3.adopt l4 o4
  have hpm := (S4.row 2 rfl).lenb
  rw [length_padR] at hpm
  have hgp : gapR l.length ≤ 63 := by unfold gapR; omega
  refine L_o (o_call Try.func117 rfl rfl (write _ l (padR l.length) _ _ _ _ _ (S4.blk 1 rfl) ⟨rest, h64, hr, rfl⟩ (S4.row 2 rfl) (S4.row_ne 2 1 rfl rfl rfl) (by omega)) rfl rfl ?_)
  rintro e5 w5 ⟨u5, rfl, hgb, cs', hB', rest2, h642, hr2, rfl⟩
  refine ⟨_, rfl, ?_⟩
  have S5 := S4.wrote (r' := blk _ _ _) 1 rfl (fun i => Iff.rfl) (fun i h => h) hgb hB'
  have hBv := S5.blk 1 rfl
  generalize hV : stv (l ++ padR l.length) ((l ++ padR l.length).length / 64) = V at hBv S5
  refine L_nil ?_
  refine hK5 _ _ ?_
  refine T_seq fun K6 hK6 => ?_
  refine T_region ?_
  refine L_o (o_alloc zz23 S5 rfl fun b6 w6 hb6 S6 => ?_)
  refine L_nil ?_
  refine hK6 _ _ ?_
  refine T_seq fun K7 hK7 => ?_
  refine T_seq fun K8 hK8 => ?_
  refine T_region ?_
  refine L_y (y_fieldA 2 Try.underlying220 rfl sz185 rfl rfl rfl) rfl ?_
  refine L_y (y_ldW Try.underlying185 rfl sz185 rfl (S6.blk 1 rfl) ⟨hashA_state _ _ _, by simp [Go.Proofs.Ytgaklngnfecdaaa.Sha.St.list]⟩) rfl ?_
  refine L_y (y_move rfl) rfl ?_
  refine L_nil ?_
  refine hK8 _ _ ?_
  refine T_block ?_
  refine T_loop1 [(2, _), (4, _), (27, _)] (fun (i : Nat) => [(28, .int .i64 (i : Int))]) (fun (i : Nat) => 8 - i) (fun (i : Nat) (w : World) => i ≤ 8 ∧ Zx.St w0 noM [blk b1 23 (bA z32), blk b2 220 (hashA (l ++ padR l.length).length V rest2), row 5 1 A4 m4 c4 (bL (padR l.length)), blk b6 23 (bA (idU V i))] w) 0 (Sub.cons rfl (by first | rfl | exact congrArg (Value.int _) (by omega)) (Sub.nil _)) (Sub.cons rfl rfl (Sub.cons rfl rfl (Sub.cons rfl rfl (Sub.nil _)))) ?_ ?_
  ·
    exact ⟨by omega, S6⟩
  ·
    intro i w7 hrel
    obtain ⟨hi, S7⟩ := hrel
    refine T_seq fun K9 hK9 => ?_
    refine T_region ?_
    refine L_y (y_lss rfl rfl) rfl ?_
    refine L_nil ?_
    refine hK9 _ _ ?_
    refine T_seq fun K10 hK10 => ?_
    refine T_cond rfl (fun h29 => ?_) (fun h29 => ?_)
    ·
      refine T_skip ?_
      refine hK10 _ _ ?_
      refine T_seq fun K11 hK11 => ?_
      refine T_block ?_
      refine T_seq fun K12 hK12 => ?_
      refine T_region ?_
      refine L_y (y_move rfl) rfl ?_
      refine L_y (y_idxV Try.underlying185 Try.underlying60 rfl sz60 rfl rfl inferInstance (by omega) (uA_get' _ _ (by rw [list_8]; omega))) rfl ?_
      refine L_y (y_assign rfl) rfl ?_
      refine L_y (y_assign rfl) rfl ?_
      refine L_nil ?_
      refine hK12 _ _ ?_
      refine T_region ?_
      refine L_y (y_move rfl) rfl ?_
      refine L_y (y_mul rfl rfl (i64w (by omega))) rfl ?_
      refine L_y (y_move rfl) rfl ?_
      refine L_y (y_mul rfl rfl (i64w (by omega))) rfl ?_
      refine L_y (y_add rfl rfl (i64w (by omega))) rfl ?_
      refine L_y (y_move rfl) rfl ?_
      refine L_y (y_mul rfl rfl (i64w (by omega))) rfl ?_
      refine L_y (y_add rfl rfl (i64w (by omega))) rfl ?_
      refine L_y (y_move rfl) rfl ?_
      refine L_y (y_mul rfl rfl (i64w (by omega))) rfl ?_
      refine L_y (y_add rfl rfl (i64w (by omega))) rfl ?_
      refine L_y (y_move rfl) rfl ?_
      refine L_y (y_shr rfl rfl (by omega) (shrF _ 24 16777216 (by omega) rfl)) rfl ?_
      refine L_y (y_conv is60 Try.underlying5 rfl (IntKind.wrap_u8 _)) rfl ?_
      refine L_y (y_move rfl) rfl ?_
      refine L_y (y_shr rfl rfl (by omega) (shrF _ 16 65536 (by omega) rfl)) rfl ?_
      refine L_y (y_conv is60 Try.underlying5 rfl (IntKind.wrap_u8 _)) rfl ?_
      refine L_y (y_move rfl) rfl ?_
      refine L_y (y_shr rfl rfl (by omega) (shrF _ 8 256 (by omega) rfl)) rfl ?_
      refine L_y (y_conv is60 Try.underlying5 rfl (IntKind.wrap_u8 _)) rfl ?_
      refine L_y (y_move rfl) rfl ?_
      refine L_y (y_conv is60 Try.underlying5 rfl (IntKind.wrap_u8 _)) rfl ?_
      refine L_y (y_idxA0 Try.underlying23 sz5 rfl rfl inferInstance (by omega)) rfl ?_
      refine L_o (o_st1 S7 3 rfl rfl rfl rfl sz5 (by simp [bA, bL, length_idU V i (by omega)]; omega) fun w8 S8 => ?_)
      refine L_y (y_idxA0 Try.underlying23 sz5 rfl rfl inferInstance (by omega)) rfl ?_
      refine L_o (o_st1 S8 3 rfl rfl rfl rfl sz5 (by simp [bA, bL, length_idU V i (by omega)]; omega) fun w9 S9 => ?_)
      refine L_y (y_idxA0 Try.underlying23 sz5 rfl rfl inferInstance (by omega)) rfl ?_
      refine L_o (o_st1 S9 3 rfl rfl rfl rfl sz5 (by simp [bA, bL, length_idU V i (by omega)]; omega) fun w10 S10 => ?_)
      refine L_y (y_idxA0 Try.underlying23 sz5 rfl rfl inferInstance (by omega)) rfl ?_
      refine L_o (o_st1 S10 3 rfl rfl rfl rfl sz5 (by simp [bA, bL, length_idU V i (by omega)]; omega) fun w11 S11 => ?_)
      refine L_nil ?_
      refine hK11 _ _ ?_
      refine T_region ?_
      refine L_y (y_add rfl rfl (i64w (by omega))) rfl ?_
      refine L_y (y_move rfl) rfl ?_
      refine L_nil ?_
      have S9 := S11.blkc 3 rfl (idU_set V i (by omega))
      refine ⟨i + 1, by omega, ⟨by omega, S9⟩, ?_⟩
      exact (Sub.cons rfl (by first | rfl | exact congrArg (Value.int _) (by omega)) (Sub.cons rfl rfl (Sub.cons rfl rfl (Sub.cons rfl rfl (Sub.nil _)))))
    ·
      obtain rfl : i = 8 := by omega
      refine T_exit ?_
      refine hK7 _ _ ?_
      refine T_seq fun K13 hK13 => ?_
      refine T_region ?_
      refine L_y (y_ldW (size := 32) (vs := bL (digL V)) Try.underlying23 rfl sz23 rfl (S7.blk 3 rfl) ⟨by rw [List.drop_zero, idU_8]; exact List.take_of_length_le (by rw [Array.length_toList, size_bA, length_digL]; omega), by rw [length_bL, length_digL]⟩) rfl ?_
      refine L_o (o_stW S7 0 rfl rfl rfl (by rw [List.size_toArray, length_bL, length_digL]; exact sz23) (by rw [List.size_toArray, length_bL, length_digL]; simp [bA, z32]) (bL_one _) fun w12 S12 => ?_)
      refine L_nil ?_
      refine hK13 _ _ ?_
      refine T_ret ?_
      repeat (first | with_reducible refine up_then ?_ | with_reducible refine up_in ?_)
      refine retc rfl rfl (S12.blk 0 rfl) Try.underlying23 rfl (by rw [List.size_toArray, length_bL, length_digL]; exact sz23) ?_
      exact ⟨_, rfl, S12.like0, by rw [ofL, hV]; rfl⟩
end Go.Proofs.Ytgaklngnfecdaaa.Sha


/-
  The sum, by the reference.
-/
namespace Go.Proofs.Ytgaklngnfecdaaa.Sha
open Go.RowKit Zk Zx
set_option linter.unusedVariables false
set_option linter.unusedSimpArgs false

end Go.Proofs.Ytgaklngnfecdaaa.Sha


/-
  The sum of parts, by the code.
-/
namespace Go.Proofs.Ytgaklngnfecdaaa.Sha
open Go.RowKit Zk Zx
set_option linter.unusedVariables false
set_option linter.unusedSimpArgs false

theorem p0_ok (w : World) : p0.ok w := Rs.nil w 1
theorem part_getD {w : World} {ps : List Part} (h : ∀ p ∈ ps, p.ok w) (k : Nat) : (ps.getD k p0).ok w := by
  rw [List.getD_eq_getElem?_getD]
  rcases Nat.lt_or_ge k ps.length with hk | hk
  · rw [List.getElem?_eq_getElem hk]
    exact h _ (List.getElem_mem hk)
  · rw [List.getElem?_eq_none hk]
    exact p0_ok w
def cat (ps : List Part) : List UInt8 := ps.flatMap (·.l)
theorem cat_next (ps : List Part) (k : Nat) (h : k < ps.length) : cat (ps.take (k + 1)) = cat (ps.take k) ++ (ps.getD k p0).l := by
  unfold cat
  rw [List.take_succ_eq_append_getElem h, List.flatMap_append]
  congr 1
  simp [List.getD_eq_getElem?_getD, List.getElem?_eq_getElem h]
theorem cat_le (ps : List Part) (k : Nat) : (cat (ps.take k)).length ≤ (cat ps).length := by
  have : cat ps = cat (ps.take k) ++ cat (ps.drop k) := by
    unfold cat
    rw [← List.flatMap_append, List.take_append_drop]
  rw [this, List.length_append]
  omega


theorem bA_one (l : List UInt8) : ∀ u ∈ (bA l).toList, u.oneCell' = true := bL_one l
theorem length_ofL (l : List UInt8) : (ofL l).length = 32 := length_digL _
set_option maxRecDepth 100000 in
set_option maxHeartbeats 1000000 in
theorem shaof (ps : List Part) (A : Option Addr) (n c : Nat) (w0 : World) (hps : Rs w0 1 A n c (ps.map pv)) (hok : ∀ p ∈ ps, p.ok w0) (hlen : (cat ps).length ≤ 100000) (hpl : ps.length ≤ 9223372036854775807) :
    Calls Try.prog 74 #[.slice A n c] w0 fun e w' => ∃ u, e = .returned u ∧ Like w0 w' ∧ u = .agg (bA (ofL (cat ps))) := by
  have hn : ps.length = n := by have := hps.len; simpa using this
  refine enter1 (env := [(0, .slice A n c)]) [.slice A n c] Try.func74 rfl Try.ntmps74 rfl rfl ?_
  have S0 := St.start w0 noM
  refine T_seq fun K1 hK1 => ?_
  refine T_region ?_
  refine L_o (o_alloc zz23 S0 rfl fun b1 w1 hb1 S1 => ?_)
  refine L_nil ?_
  refine hK1 _ _ ?_
  refine T_seq fun K2 hK2 => ?_
  refine T_region ?_
  refine L_o (o_call Try.func116 rfl rfl (new _) rfl rfl ?_)
  rintro e2 w2 ⟨v2, rfl, l2, b2, rfl, hb2, hB2⟩
  refine ⟨_, rfl, ?_⟩
  have S2 := S1.adoptB l2 hB2 hb2
  refine L_y (y_assign rfl) rfl ?_
  refine L_nil ?_
  refine hK2 _ _ ?_
  refine T_seq fun K3 hK3 => ?_
  refine T_seq fun K4 hK4 => ?_
  refine T_region ?_
  refine L_y (y_move rfl) rfl ?_
  refine L_y (y_len Try.underlying177 rfl) rfl ?_
  refine L_y (y_move rfl) rfl ?_
  refine L_nil ?_
  refine hK4 _ _ ?_
  refine T_block ?_
  refine T_loop2 [(2, _), (3, _), (7, _), (8, _)] (fun (k : Nat) (cs : Array Value) => [(9, .int .i64 (k : Int))]) (fun (k : Nat) (cs : Array Value) => ps.length - k) (fun (k : Nat) (cs : Array Value) (w : World) => k ≤ ps.length ∧ HS (cat (ps.take k)) cs ∧ Zx.St w0 noM [blk b1 23 (bA z32), blk b2 220 cs] w) 0 (hashA 0 start0 (List.replicate 64 0)) (Sub.cons rfl (by first | rfl | exact congrArg (Value.int _) (by omega)) (Sub.nil _)) (Sub.cons rfl rfl (Sub.cons rfl rfl (Sub.cons rfl rfl (Sub.cons rfl rfl (Sub.nil _))))) ?_ ?_
  ·
    exact ⟨by omega, HS_nil, S2⟩
  ·
    intro k cs w3 hrel
    obtain ⟨hk, hs, S3⟩ := hrel
    refine T_seq fun K5 hK5 => ?_
    refine T_region ?_
    refine L_y (y_lss rfl rfl) rfl ?_
    refine L_nil ?_
    refine hK5 _ _ ?_
    refine T_seq fun K6 hK6 => ?_
    refine T_cond rfl (fun h10 => ?_) (fun h10 => ?_)
    ·
      refine T_skip ?_
      refine hK6 _ _ ?_
      refine T_seq fun K7 hK7 => ?_
      refine T_block ?_
      refine T_seq fun K8 hK8 => ?_
      refine T_region ?_
      refine L_y (y_idx Try.underlying177 sz27 rfl rfl (by first | exact S3.rd hps) inferInstance (by omega)) rfl ?_
      refine L_y (y_ldg p0 Try.underlying27 rfl rfl (by first | exact S3.rd hps) (by omega)) rfl ?_
      refine L_y (y_assign rfl) rfl ?_
      refine L_nil ?_
      refine hK8 _ _ ?_
      refine T_region ?_
      refine L_y (y_move rfl) rfl ?_
      refine L_y (y_move rfl) rfl ?_
      have hz1 := S1.size
      have hq := part_getD hok k
      have hlt : k < ps.length := by omega
      have hcn := cat_next ps k hlt
      have hcl := cat_le ps (k + 1)
      have hql := hq.lenb
      have hcx : (cat (ps.take k)).length + (ps.getD k p0).n ≤ 1000000 := by rw [hcn, List.length_append, hql] at hcl; omega
      refine L_o (o_call Try.func117 rfl rfl (write _ _ (ps.getD k p0).l _ _ _ _ _ (S3.blk 1 rfl) hs (S3.rd hq) (fun ad h0 had => by obtain ⟨ad', had', hlt', _⟩ := hq.rd.2 h0; rw [had] at had'; cases had'; omega) hcx) rfl rfl ?_)
      rintro e4 w4 ⟨u4, rfl, hgb, cs', hB', hs'⟩
      refine ⟨_, rfl, ?_⟩
      have S4 := S3.wrote (r' := blk _ _ _) 1 rfl (fun i => Iff.rfl) (fun i h => h) hgb hB'
      rw [← hcn] at hs'
      refine L_nil ?_
      refine hK7 _ _ ?_
      refine T_region ?_
      refine L_y (y_add rfl rfl (i64w (by omega))) rfl ?_
      refine L_y (y_move rfl) rfl ?_
      refine L_nil ?_
      refine ⟨k + 1, _, by omega, ⟨by omega, hs', S4⟩, ?_⟩
      exact (Sub.cons rfl (by first | rfl | exact congrArg (Value.int _) (by omega)) (Sub.cons rfl rfl (Sub.cons rfl rfl (Sub.cons rfl rfl (Sub.cons rfl rfl (Sub.nil _))))))
    ·
      have hke : ps.take k = ps := List.take_of_length_le (by omega)
      rw [hke] at hs
      refine T_exit ?_
      refine hK3 _ _ ?_
      refine T_seq fun K9 hK9 => ?_
      refine T_region ?_
      refine L_y (y_move rfl) rfl ?_
      refine L_o (o_call Try.func118 rfl rfl (sum _ (cat ps) cs _ (S3.blk 1 rfl) hs (by omega)) rfl rfl ?_)
      rintro e5 w5 ⟨v5, rfl, l5, rfl⟩
      refine ⟨_, rfl, ?_⟩
      have S5 := S3.like l5
      refine L_o (o_stW S5 0 rfl rfl rfl (by rw [size_bA, length_ofL]; exact sz23) (by rw [size_bA, length_ofL]; simp [Value.cells, bA, z32]) (bA_one _) fun w6 S6 => ?_)
      refine L_nil ?_
      refine hK9 _ _ ?_
      refine T_ret ?_
      repeat (first | with_reducible refine up_then ?_ | with_reducible refine up_in ?_)
      refine retc rfl rfl (S6.blk 0 rfl) Try.underlying23 rfl (by rw [size_bA, length_ofL]; exact sz23) ?_
      exact ⟨_, rfl, S6.like0, rfl⟩
end Go.Proofs.Ytgaklngnfecdaaa.Sha


/-
  An index laid out.
-/
namespace Go.Proofs.Ytgaklngnfecdaaa.Idx
open Go.RowKit Zk Zx
open Oid (idf idf_len cmpL)
set_option linter.unusedVariables false
set_option linter.unusedSimpArgs false

open Oct (wt wt_lt Laid)
/-- An index' bytes ahead of their sum. -/
def bodyB (l : List Row) (of : Oid.Id) : List UInt8 :=
  [73, 78, 68, 88] ++ Oct.tl 1 4 ++ (List.range 256).flatMap (fun c => Oct.tl (cl l (c + 1)) 4) ++ l.flatMap (fun x => x.id.l) ++ l.flatMap (fun x => Oct.tl x.sm.toNat 4) ++ l.flatMap (fun x => Oct.tl x.at_.toNat 4) ++ of.l
def layB (l : List Row) (of : Oid.Id) : List UInt8 := bodyB l of ++ Sha.ofL (bodyB l of)
theorem wt_fresh {w w' : World} {b : Nat} (h : w.heap.size ≤ b) (hw : (wt b none 0 0 []).holds w') : ∀ i, (wt b none 0 0 []).dom i → w.heap.size ≤ i ∧ i < w'.heap.size := fun i hi => by
  refine ⟨?_, wt_lt hw i hi⟩
  rcases hi with hi | hi
  · have hi' : i = b := hi
    omega
  · cases hi
theorem i_u32 {x : Int} (h : 0 ≤ x) (h2 : x ≤ 4294967295) : IntKind.u32.wrap x = ((x.toNat : Nat) : Int) := by
  rw [IntKind.wrap_u32]
  omega
theorem take1 {α β : Type} {l : List α} {k : Nat} {x : α} (f : α → List β) (hx : l[k]? = some x) : (l.take (k + 1)).flatMap f = (l.take k).flatMap f ++ f x := by
  rw [List.take_add_one, hx, List.flatMap_append]
  simp
theorem fan_len (l : List Row) (k : Nat) : ((List.range k).flatMap (fun c => Oct.tl (cl l (c + 1)) 4)).length = k * 4 := by
  induction k with
  | zero => rfl
  | succ k ih => rw [List.range_succ, List.flatMap_append, List.length_append, ih]; simp [Oct.length_tl]; omega
theorem ids_blen (l : List Row) : (l.flatMap (fun x => x.id.l)).length = l.length * 32 := by
  induction l with
  | nil => rfl
  | cons x l ih => rw [List.flatMap_cons, List.length_append, ih, x.id.h, List.length_cons]; omega
theorem tls_blen (f : Row → Nat) (l : List Row) : (l.flatMap (fun x => Oct.tl (f x) 4)).length = l.length * 4 := by
  induction l with
  | nil => rfl
  | cons x l ih => rw [List.flatMap_cons, List.length_append, ih, Oct.length_tl, List.length_cons]; omega
theorem fan_cell (l : List Row) (k : Nat) (h : k < 256) : (fanF l).toArray[k]? = some (.int .i64 (cl l (k + 1) : Int)) := by
  rw [List.getElem?_toArray]
  unfold fanF fanA
  rw [List.getElem?_append_left (by simpa using h)]
  simp [h]
theorem i_u32n (x : Nat) (h : x ≤ 4294967295) : IntKind.u32.wrap (x : Int) = (x : Int) := by
  rw [IntKind.wrap_u32]
  omega
def headB : List UInt8 := [73, 78, 68, 88] ++ Oct.tl 1 4
def fanB (l : List Row) (k : Nat) : List UInt8 := (List.range k).flatMap (fun c => Oct.tl (cl l (c + 1)) 4)
def idsB (l : List Row) : List UInt8 := l.flatMap (fun x => x.id.l)
def smsB (l : List Row) : List UInt8 := l.flatMap (fun x => Oct.tl x.sm.toNat 4)
def atsB (l : List Row) : List UInt8 := l.flatMap (fun x => Oct.tl x.at_.toNat 4)
theorem bodyB_eq (l : List Row) (of : Oid.Id) : bodyB l of = headB ++ fanB l 256 ++ idsB l ++ smsB l ++ atsB l ++ of.l := rfl
theorem fan_step (l : List Row) (k : Nat) : fanB l k ++ Oct.tl (cl l (k + 1)) 4 = fanB l (k + 1) := by unfold fanB; rw [List.range_succ, List.flatMap_append]; simp
theorem ids_step {l : List Row} {k : Nat} {x : Row} (hx : l[k]? = some x) : idsB (l.take k) ++ x.id.l = idsB (l.take (k + 1)) := (take1 (fun x : Row => x.id.l) hx).symm
theorem sms_step {l : List Row} {k : Nat} {x : Row} (hx : l[k]? = some x) : smsB (l.take k) ++ Oct.tl x.sm.toNat 4 = smsB (l.take (k + 1)) := (take1 (fun x : Row => Oct.tl x.sm.toNat 4) hx).symm
theorem ats_step {l : List Row} {k : Nat} {x : Row} (hx : l[k]? = some x) : atsB (l.take k) ++ Oct.tl x.at_.toNat 4 = atsB (l.take (k + 1)) := (take1 (fun x : Row => Oct.tl x.at_.toNat 4) hx).symm
theorem cat1 (A : Option Addr) (n c : Nat) (l : List UInt8) : Sha.cat [⟨A, n, c, l⟩] = l := by simp [Sha.cat]
theorem headB_len : headB.length = 8 := by simp [headB, Oct.length_tl]
theorem fanB_len (l : List Row) (k : Nat) : (fanB l k).length = k * 4 := fan_len l k
theorem idsB_len (l : List Row) : (idsB l).length = l.length * 32 := ids_blen l
theorem smsB_len (l : List Row) : (smsB l).length = l.length * 4 := tls_blen _ l
theorem atsB_len (l : List Row) : (atsB l).length = l.length * 4 := tls_blen _ l
theorem bodyB_len (l : List Row) (of : Oid.Id) : (bodyB l of).length = 1064 + 40 * l.length := by
  rw [bodyB_eq]
  simp only [List.length_append, headB_len, fanB_len, idsB_len, smsB_len, atsB_len, of.h]
  omega
theorem rs_rowid {w : World} {b : Nat} {x : Row} (h : Blk w b 119 (rowf x).toArray) : Rs w 1 (some ⟨b, 0, none⟩) 32 32 (bL x.id.l) := by
  have := Rs.of_blk (o := 0) (n := 32) h (by rw [rowf_sz]; omega) (by omega)
  rwa [(row_id x).1] at this
theorem rs_id {w : World} {b t : Nat} {x : Oid.Id} (h : Blk w b t (idf x).toArray) : Rs w 1 (some ⟨b, 0, none⟩) 32 32 (bL x.l) := by
  have := Rs.of_blk (o := 0) (n := 32) h (by rw [List.size_toArray, idf_len]; omega) (by omega)
  rwa [List.drop_zero, List.toList_toArray, List.take_of_length_le (by rw [idf_len]; omega)] at this
theorem rs_dig {w : World} {b t : Nat} {l : List UInt8} (h : Blk w b t (bA (Sha.ofL l))) : Rs w 1 (some ⟨b, 0, none⟩) 32 32 (bL (Sha.ofL l)) := rs_id (x := ⟨Sha.ofL l, Sha.length_ofL l⟩) h
theorem row32n (x : Row) (h : 0 ≤ x.sm) : (rowf x).toArray[32]? = some (.int .u32 ((x.sm.toNat : Nat) : Int)) := by
  rw [row32, Int.toNat_of_nonneg h]
/-- Rows as Make and Open keep them. -/
structure RowOk (x : Row) : Prop where
  s0 : 0 ≤ x.sm
  s1 : x.sm ≤ 4294967295
  a0 : 0 ≤ x.at_
  a1 : x.at_ ≤ 1048576


set_option maxRecDepth 100000 in
theorem lay (A : Option Addr) (n c : Nat) (l : List Row) (of : Oid.Id) (w0 : World) (hl : Rs w0 34 A n c (l.flatMap rowf)) (hs : FS l) (hok : ∀ x ∈ l, RowOk x) (h600 : l.length ≤ 600) :
    Calls Try.prog 65 #[.slice A n c, .agg (idf of).toArray] w0 fun e w' => ∃ u, e = .returned u ∧ Like w0 w' ∧ ∃ A' m c', u = .slice A' m c' ∧ w'.ownsRow w0.heap.size 5 1 (.slice A' m c') m (bL (layB l of)) := by
  refine enter1 (env := [(0, .slice A n c), (1, .agg (idf of).toArray)]) [.slice A n c, .agg (idf of).toArray] Try.func65 rfl Try.ntmps65 rfl rfl ?_
  have hn := rows_len hl; have hcap := hl.cap; have hmax := hl.max
  have S0 := St.start w0 noM
  refine T_seq fun K1 hK1 => ?_
  refine T_region ?_
  refine L_o (o_box rfl S0 rfl fun b1 w1 hb1 S1 => ?_)
  refine L_y (y_assign rfl) rfl ?_
  refine L_nil ?_
  refine hK1 _ _ ?_
  refine T_seq fun K2 hK2 => ?_
  refine T_region ?_
  refine L_o (o_call Try.func109 rfl rfl (Oct.wnew w1) rfl rfl ?_)
  rintro e2 w2 ⟨v2, rfl, l2, g, rfl, hb2, hh2⟩
  refine ⟨_, rfl, ?_⟩
  have S2 := S1.new l2 _ hh2 (wt_fresh hb2 hh2)
  refine L_y (y_assign rfl) rfl ?_
  refine L_nil ?_
  refine hK2 _ _ ?_
  refine T_seq fun K3 hK3 => ?_
  refine T_region ?_
  refine L_y (y_move rfl) rfl ?_
  refine L_o (o_bsl [_, _, _, _] te27 zz5 S2 rfl rfl rfl rfl rfl rfl rfl rfl fun b3 w3 S3 => ?_)
  refine L_o (o_bconst S3 2 rfl Try.underlying27 Try.underlying5 rfl (by omega) rfl fun w4 S4 => ?_)
  refine L_o (o_call Try.func110 rfl rfl (Oct.wraw g _ _ _ _ _ _ _ [73, 78, 68, 88] w4 (S4.get 1 rfl) (S4.fix 2 rfl) (by simp)) rfl rfl ?_)
  rintro e5 w5 ⟨v5, rfl, ⟨A5, n5, c5, T5⟩⟩
  refine ⟨_, rfl, ?_⟩
  have S5 := S4.turn 1 rfl T5
  refine L_nil ?_
  refine hK3 _ _ ?_
  refine T_seq fun K4 hK4 => ?_
  refine T_region ?_
  refine L_y (y_move rfl) rfl ?_
  refine L_o (o_call Try.func111 rfl rfl (Oct.wu32 g _ _ _ _ 1 w5 (S5.get 1 rfl) (by omega) (by simp)) rfl rfl ?_)
  rintro e6 w6 ⟨v6, rfl, ⟨A6, n6, c6, T6⟩⟩
  refine ⟨_, rfl, ?_⟩
  have S6 := S5.turn 1 rfl T6
  refine L_nil ?_
  refine hK4 _ _ ?_
  refine T_seq fun K5 hK5 => ?_
  refine T_seq fun K6 hK6 => ?_
  refine T_region ?_
  refine L_y (y_move rfl) rfl ?_
  refine L_o (o_call Try.func76 rfl rfl (fanC A n c l w6 (S6.rd hl) hs) rfl rfl ?_)
  rintro e7 w7 ⟨v7, rfl, l7, rfl⟩
  refine ⟨_, rfl, ?_⟩
  have S7 := S6.like l7
  refine L_y (y_move rfl) rfl ?_
  refine L_nil ?_
  refine hK6 _ _ ?_
  refine T_block ?_
  refine T_loop4 [(0, _), (3, _), (5, _), (23, _)] (fun (k : Nat) (A1 : Option Addr) (n1 : Nat) (c1 : Nat) => [(24, .int .i64 (k : Int))]) (fun (k : Nat) (A1 : Option Addr) (n1 : Nat) (c1 : Nat) => 256 - k) (fun (k : Nat) (A1 : Option Addr) (n1 : Nat) (c1 : Nat) (w : World) => k ≤ 256 ∧ Zx.St w0 noM [blk b1 23 (idf of).toArray, wt g A1 n1 c1 (headB ++ fanB l k)] w) 0 A6 n6 c6 (Sub.cons rfl (by first | rfl | exact congrArg (Value.int _) (by omega)) (Sub.nil _)) (Sub.cons rfl rfl (Sub.cons rfl rfl (Sub.cons rfl rfl (Sub.cons rfl rfl (Sub.nil _))))) ?_ ?_
  ·
    have S90 := S7.sel [0, 1] (by decide)
    have S91 : Zx.St w0 noM [blk b1 23 (idf of).toArray, wt g A6 n6 c6 (headB)] w7 := S90
    rw [← List.append_nil (headB)] at S91
    exact ⟨by omega, S91⟩
  ·
    intro k A1 n1 c1 w8 hrel
    obtain ⟨hk, S8⟩ := hrel
    refine T_seq fun K7 hK7 => ?_
    refine T_region ?_
    refine L_y (y_lss rfl rfl) rfl ?_
    refine L_nil ?_
    refine hK7 _ _ ?_
    refine T_seq fun K8 hK8 => ?_
    refine T_cond rfl (fun h25 => ?_) (fun h25 => ?_)
    ·
      refine T_skip ?_
      refine hK8 _ _ ?_
      refine T_seq fun K9 hK9 => ?_
      refine T_block ?_
      refine T_seq fun K10 hK10 => ?_
      refine T_region ?_
      refine L_y (y_idxV Try.underlying95 Try.underlying3 rfl sz3 rfl rfl inferInstance (by omega) (fan_cell l k (by omega))) rfl ?_
      refine L_y (y_assign rfl) rfl ?_
      refine L_nil ?_
      refine hK10 _ _ ?_
      refine T_region ?_
      refine L_y (y_move rfl) rfl ?_
      refine L_y (y_move rfl) rfl ?_
      refine L_y (y_conv is3 Try.underlying60 rfl (i_u32n _ (by have h9 := cl_le l (k + 1); omega))) rfl ?_
      refine L_o (o_call Try.func111 rfl rfl (Oct.wu32 g _ _ _ _ (cl l (k + 1)) w8 (S8.get 1 rfl) (by have h9 := cl_le l (k + 1); omega) (by simp only [List.length_append, headB_len, fanB_len, idsB_len, smsB_len, atsB_len, List.length_take, List.length_cons, List.length_nil, Oct.length_tl]; omega)) rfl rfl ?_)
      rintro e9 w9 ⟨v9, rfl, ⟨A9, n9, c9, T9⟩⟩
      refine ⟨_, rfl, ?_⟩
      have S9 := S8.turn 1 rfl T9
      refine L_nil ?_
      refine hK9 _ _ ?_
      refine T_region ?_
      refine L_y (y_add rfl rfl (i64w (by omega))) rfl ?_
      refine L_y (y_move rfl) rfl ?_
      refine L_nil ?_
      have S91 := S9.sel [0, 1] (by decide)
      have S92 : Zx.St w0 noM [blk b1 23 (idf of).toArray, wt g A9 n9 c9 ((headB ++ _) ++ _)] w9 := S91
      rw [List.append_assoc (headB), fan_step] at S92
      refine ⟨k + 1, _, _, _, by omega, ⟨by omega, S92⟩, ?_⟩
      exact (Sub.cons rfl (by first | rfl | exact congrArg (Value.int _) (by omega)) (Sub.cons rfl rfl (Sub.cons rfl rfl (Sub.cons rfl rfl (Sub.cons rfl rfl (Sub.nil _))))))
    ·
      obtain rfl : k = 256 := by omega
      refine T_exit ?_
      refine hK5 _ _ ?_
      refine T_seq fun K11 hK11 => ?_
      refine T_seq fun K12 hK12 => ?_
      refine T_region ?_
      refine L_y (y_move rfl) rfl ?_
      refine L_y (y_len Try.underlying94 rfl) rfl ?_
      refine L_y (y_move rfl) rfl ?_
      refine L_nil ?_
      refine hK12 _ _ ?_
      refine T_block ?_
      refine T_loop4 [(0, _), (3, _), (5, _), (32, _), (33, _)] (fun (k : Nat) (A1 : Option Addr) (n1 : Nat) (c1 : Nat) => [(34, .int .i64 (k : Int))]) (fun (k : Nat) (A1 : Option Addr) (n1 : Nat) (c1 : Nat) => l.length - k) (fun (k : Nat) (A1 : Option Addr) (n1 : Nat) (c1 : Nat) (w : World) => k ≤ l.length ∧ Zx.St w0 noM [blk b1 23 (idf of).toArray, wt g A1 n1 c1 (headB ++ fanB l 256 ++ idsB (l.take k))] w) 0 A1 n1 c1 (Sub.cons rfl (by first | rfl | exact congrArg (Value.int _) (by omega)) (Sub.nil _)) (Sub.cons rfl rfl (Sub.cons rfl rfl (Sub.cons rfl rfl (Sub.cons rfl rfl (Sub.cons rfl rfl (Sub.nil _)))))) ?_ ?_
      ·
        have S90 := S8.sel [0, 1] (by decide)
        have S91 : Zx.St w0 noM [blk b1 23 (idf of).toArray, wt g A1 n1 c1 (headB ++ fanB l 256)] w8 := S90
        rw [← List.append_nil (headB ++ fanB l 256)] at S91
        exact ⟨by omega, S91⟩
      ·
        intro k A1 n1 c1 w10 hrel
        obtain ⟨hk, S10⟩ := hrel
        refine T_seq fun K13 hK13 => ?_
        refine T_region ?_
        refine L_y (y_lss rfl rfl) rfl ?_
        refine L_nil ?_
        refine hK13 _ _ ?_
        refine T_seq fun K14 hK14 => ?_
        refine T_cond rfl (fun h35 => ?_) (fun h35 => ?_)
        ·
          obtain ⟨x, hx⟩ : ∃ x, l[k]? = some x := ⟨_, List.getElem?_eq_getElem (by omega)⟩
          have hr := hok x (List.mem_of_getElem? hx)
          refine T_skip ?_
          refine hK14 _ _ ?_
          refine T_seq fun K15 hK15 => ?_
          refine T_block ?_
          refine T_seq fun K16 hK16 => ?_
          refine T_region ?_
          refine L_y (y_idx Try.underlying94 sz119 rfl rfl (by first | exact S10.rd hl) inferInstance (by omega)) rfl ?_
          refine L_y (y_ldp (f := rowf) rowf_len Try.underlying119 rfl sz119 rfl (S10.rd hl) (by omega) hx) rfl ?_
          refine L_o (o_alloc zz119 S10 rfl fun b11 w11 hb11 S11 => ?_)
          refine L_o (o_stW S11 2 rfl rfl rfl (by rw [rowf_sz]; exact sz119) (by rw [rowf_sz]; rfl) (fun u hu => rowf_one _ u (by rw [List.toList_toArray] at hu; exact hu)) fun w12 S12 => ?_)
          refine L_nil ?_
          refine hK16 _ _ ?_
          refine T_region ?_
          refine L_y (y_move rfl) rfl ?_
          refine L_y (y_fieldA 0 Try.underlying119 rfl sz23 rfl rfl rfl) rfl ?_
          refine L_y (y_aslice Try.underlying23 sz5 rfl) rfl ?_
          refine L_o (o_call Try.func110 rfl rfl (Oct.wraw g _ _ _ _ _ _ _ x.id.l w12 (S12.get 1 rfl) (rs_rowid (S12.blk 2 rfl)) (by simp only [List.length_append, headB_len, fanB_len, idsB_len, smsB_len, atsB_len, List.length_take, List.length_cons, List.length_nil, Oct.length_tl]; omega)) rfl rfl ?_)
          rintro e13 w13 ⟨v13, rfl, ⟨A13, n13, c13, T13⟩⟩
          refine ⟨_, rfl, ?_⟩
          have S13 := S12.turn 1 rfl T13
          refine L_nil ?_
          refine hK15 _ _ ?_
          refine T_region ?_
          refine L_y (y_add rfl rfl (i64w (by omega))) rfl ?_
          refine L_y (y_move rfl) rfl ?_
          refine L_nil ?_
          have S91 := S13.sel [0, 1] (by decide)
          have S92 : Zx.St w0 noM [blk b1 23 (idf of).toArray, wt g A13 n13 c13 ((headB ++ fanB l 256 ++ _) ++ _)] w13 := S91
          rw [List.append_assoc (headB ++ fanB l 256), ids_step hx] at S92
          refine ⟨k + 1, _, _, _, by omega, ⟨by omega, S92⟩, ?_⟩
          exact (Sub.cons rfl (by first | rfl | exact congrArg (Value.int _) (by omega)) (Sub.cons rfl rfl (Sub.cons rfl rfl (Sub.cons rfl rfl (Sub.cons rfl rfl (Sub.cons rfl rfl (Sub.nil _)))))))
        ·
          have hke : k = l.length := by omega
          rw [hke, List.take_length] at S10
          refine T_exit ?_
          refine hK11 _ _ ?_
          refine T_seq fun K17 hK17 => ?_
          refine T_seq fun K18 hK18 => ?_
          refine T_region ?_
          refine L_y (y_move rfl) rfl ?_
          refine L_y (y_len Try.underlying94 rfl) rfl ?_
          refine L_y (y_move rfl) rfl ?_
          refine L_nil ?_
          refine hK18 _ _ ?_
          refine T_block ?_
          refine T_loop4 [(0, _), (3, _), (5, _), (43, _), (44, _)] (fun (k : Nat) (A1 : Option Addr) (n1 : Nat) (c1 : Nat) => [(45, .int .i64 (k : Int))]) (fun (k : Nat) (A1 : Option Addr) (n1 : Nat) (c1 : Nat) => l.length - k) (fun (k : Nat) (A1 : Option Addr) (n1 : Nat) (c1 : Nat) (w : World) => k ≤ l.length ∧ Zx.St w0 noM [blk b1 23 (idf of).toArray, wt g A1 n1 c1 (headB ++ fanB l 256 ++ idsB l ++ smsB (l.take k))] w) 0 A1 n1 c1 (Sub.cons rfl (by first | rfl | exact congrArg (Value.int _) (by omega)) (Sub.nil _)) (Sub.cons rfl rfl (Sub.cons rfl rfl (Sub.cons rfl rfl (Sub.cons rfl rfl (Sub.cons rfl rfl (Sub.nil _)))))) ?_ ?_
          ·
            have S90 := S10.sel [0, 1] (by decide)
            have S91 : Zx.St w0 noM [blk b1 23 (idf of).toArray, wt g A1 n1 c1 (headB ++ fanB l 256 ++ idsB l)] w10 := S90
            rw [← List.append_nil (headB ++ fanB l 256 ++ idsB l)] at S91
            exact ⟨by omega, S91⟩
          ·
            intro k A1 n1 c1 w14 hrel
            obtain ⟨hk, S14⟩ := hrel
            refine T_seq fun K19 hK19 => ?_
            refine T_region ?_
            refine L_y (y_lss rfl rfl) rfl ?_
            refine L_nil ?_
            refine hK19 _ _ ?_
            refine T_seq fun K20 hK20 => ?_
            refine T_cond rfl (fun h46 => ?_) (fun h46 => ?_)
            ·
              obtain ⟨x, hx⟩ : ∃ x, l[k]? = some x := ⟨_, List.getElem?_eq_getElem (by omega)⟩
              have hr := hok x (List.mem_of_getElem? hx)
              refine T_skip ?_
              refine hK20 _ _ ?_
              refine T_seq fun K21 hK21 => ?_
              refine T_block ?_
              refine T_seq fun K22 hK22 => ?_
              refine T_region ?_
              refine L_y (y_idx Try.underlying94 sz119 rfl rfl (by first | exact S14.rd hl) inferInstance (by omega)) rfl ?_
              refine L_y (y_ldp (f := rowf) rowf_len Try.underlying119 rfl sz119 rfl (S14.rd hl) (by omega) hx) rfl ?_
              refine L_o (o_alloc zz119 S14 rfl fun b15 w15 hb15 S15 => ?_)
              refine L_o (o_stW S15 2 rfl rfl rfl (by rw [rowf_sz]; exact sz119) (by rw [rowf_sz]; rfl) (fun u hu => rowf_one _ u (by rw [List.toList_toArray] at hu; exact hu)) fun w16 S16 => ?_)
              refine L_nil ?_
              refine hK22 _ _ ?_
              refine T_region ?_
              refine L_y (y_move rfl) rfl ?_
              refine L_y (y_fieldA 32 Try.underlying119 rfl sz60 rfl rfl rfl) rfl ?_
              refine L_y (y_ldc Try.underlying60 rfl rfl (((S16.blk 2 rfl).cell _).trans (row32n x hr.s0))) rfl ?_
              refine L_o (o_call Try.func111 rfl rfl (Oct.wu32 g _ _ _ _ x.sm.toNat w16 (S16.get 1 rfl) (by have h9 := hr.s1; omega) (by simp only [List.length_append, headB_len, fanB_len, idsB_len, smsB_len, atsB_len, List.length_take, List.length_cons, List.length_nil, Oct.length_tl]; omega)) rfl rfl ?_)
              rintro e17 w17 ⟨v17, rfl, ⟨A17, n17, c17, T17⟩⟩
              refine ⟨_, rfl, ?_⟩
              have S17 := S16.turn 1 rfl T17
              refine L_nil ?_
              refine hK21 _ _ ?_
              refine T_region ?_
              refine L_y (y_add rfl rfl (i64w (by omega))) rfl ?_
              refine L_y (y_move rfl) rfl ?_
              refine L_nil ?_
              have S91 := S17.sel [0, 1] (by decide)
              have S92 : Zx.St w0 noM [blk b1 23 (idf of).toArray, wt g A17 n17 c17 ((headB ++ fanB l 256 ++ idsB l ++ _) ++ _)] w17 := S91
              rw [List.append_assoc (headB ++ fanB l 256 ++ idsB l), sms_step hx] at S92
              refine ⟨k + 1, _, _, _, by omega, ⟨by omega, S92⟩, ?_⟩
              exact (Sub.cons rfl (by first | rfl | exact congrArg (Value.int _) (by omega)) (Sub.cons rfl rfl (Sub.cons rfl rfl (Sub.cons rfl rfl (Sub.cons rfl rfl (Sub.cons rfl rfl (Sub.nil _)))))))
            ·
              have hke : k = l.length := by omega
              rw [hke, List.take_length] at S14
              refine T_exit ?_
              refine hK17 _ _ ?_
              refine T_seq fun K23 hK23 => ?_
              refine T_seq fun K24 hK24 => ?_
              refine T_region ?_
              refine L_y (y_move rfl) rfl ?_
              refine L_y (y_len Try.underlying94 rfl) rfl ?_
              refine L_y (y_move rfl) rfl ?_
              refine L_nil ?_
              refine hK24 _ _ ?_
              refine T_block ?_
              refine T_loop4 [(3, _), (5, _), (54, _), (55, _)] (fun (k : Nat) (A1 : Option Addr) (n1 : Nat) (c1 : Nat) => [(56, .int .i64 (k : Int))]) (fun (k : Nat) (A1 : Option Addr) (n1 : Nat) (c1 : Nat) => l.length - k) (fun (k : Nat) (A1 : Option Addr) (n1 : Nat) (c1 : Nat) (w : World) => k ≤ l.length ∧ Zx.St w0 noM [blk b1 23 (idf of).toArray, wt g A1 n1 c1 (headB ++ fanB l 256 ++ idsB l ++ smsB l ++ atsB (l.take k))] w) 0 A1 n1 c1 (Sub.cons rfl (by first | rfl | exact congrArg (Value.int _) (by omega)) (Sub.nil _)) (Sub.cons rfl rfl (Sub.cons rfl rfl (Sub.cons rfl rfl (Sub.cons rfl rfl (Sub.nil _))))) ?_ ?_
              ·
                have S90 := S14.sel [0, 1] (by decide)
                have S91 : Zx.St w0 noM [blk b1 23 (idf of).toArray, wt g A1 n1 c1 (headB ++ fanB l 256 ++ idsB l ++ smsB l)] w14 := S90
                rw [← List.append_nil (headB ++ fanB l 256 ++ idsB l ++ smsB l)] at S91
                exact ⟨by omega, S91⟩
              ·
                intro k A1 n1 c1 w18 hrel
                obtain ⟨hk, S18⟩ := hrel
                refine T_seq fun K25 hK25 => ?_
                refine T_region ?_
                refine L_y (y_lss rfl rfl) rfl ?_
                refine L_nil ?_
                refine hK25 _ _ ?_
                refine T_seq fun K26 hK26 => ?_
                refine T_cond rfl (fun h57 => ?_) (fun h57 => ?_)
                ·
                  obtain ⟨x, hx⟩ : ∃ x, l[k]? = some x := ⟨_, List.getElem?_eq_getElem (by omega)⟩
                  have hr := hok x (List.mem_of_getElem? hx)
                  refine T_skip ?_
                  refine hK26 _ _ ?_
                  refine T_seq fun K27 hK27 => ?_
                  refine T_block ?_
                  refine T_seq fun K28 hK28 => ?_
                  refine T_region ?_
                  refine L_y (y_idx Try.underlying94 sz119 rfl rfl (by first | exact S18.rd hl) inferInstance (by omega)) rfl ?_
                  refine L_y (y_ldp (f := rowf) rowf_len Try.underlying119 rfl sz119 rfl (S18.rd hl) (by omega) hx) rfl ?_
                  refine L_o (o_alloc zz119 S18 rfl fun b19 w19 hb19 S19 => ?_)
                  refine L_o (o_stW S19 2 rfl rfl rfl (by rw [rowf_sz]; exact sz119) (by rw [rowf_sz]; rfl) (fun u hu => rowf_one _ u (by rw [List.toList_toArray] at hu; exact hu)) fun w20 S20 => ?_)
                  refine L_nil ?_
                  refine hK28 _ _ ?_
                  refine T_region ?_
                  refine L_y (y_move rfl) rfl ?_
                  refine L_y (y_fieldA 33 Try.underlying119 rfl sz3 rfl rfl rfl) rfl ?_
                  refine L_y (y_ldc Try.underlying3 rfl rfl (((S20.blk 2 rfl).cell _).trans (row33 x))) rfl ?_
                  refine L_y (y_conv is3 Try.underlying60 rfl (i_u32 hr.a0 (by have h9 := hr.a1; omega))) rfl ?_
                  refine L_o (o_call Try.func111 rfl rfl (Oct.wu32 g _ _ _ _ x.at_.toNat w20 (S20.get 1 rfl) (by have h9 := hr.a1; omega) (by simp only [List.length_append, headB_len, fanB_len, idsB_len, smsB_len, atsB_len, List.length_take, List.length_cons, List.length_nil, Oct.length_tl]; omega)) rfl rfl ?_)
                  rintro e21 w21 ⟨v21, rfl, ⟨A21, n21, c21, T21⟩⟩
                  refine ⟨_, rfl, ?_⟩
                  have S21 := S20.turn 1 rfl T21
                  refine L_nil ?_
                  refine hK27 _ _ ?_
                  refine T_region ?_
                  refine L_y (y_add rfl rfl (i64w (by omega))) rfl ?_
                  refine L_y (y_move rfl) rfl ?_
                  refine L_nil ?_
                  have S91 := S21.sel [0, 1] (by decide)
                  have S92 : Zx.St w0 noM [blk b1 23 (idf of).toArray, wt g A21 n21 c21 ((headB ++ fanB l 256 ++ idsB l ++ smsB l ++ _) ++ _)] w21 := S91
                  rw [List.append_assoc (headB ++ fanB l 256 ++ idsB l ++ smsB l), ats_step hx] at S92
                  refine ⟨k + 1, _, _, _, by omega, ⟨by omega, S92⟩, ?_⟩
                  exact (Sub.cons rfl (by first | rfl | exact congrArg (Value.int _) (by omega)) (Sub.cons rfl rfl (Sub.cons rfl rfl (Sub.cons rfl rfl (Sub.cons rfl rfl (Sub.nil _))))))
                ·
                  have hke : k = l.length := by omega
                  rw [hke, List.take_length] at S18
                  refine T_exit ?_
                  refine hK23 _ _ ?_
                  refine T_seq fun K29 hK29 => ?_
                  refine T_region ?_
                  refine L_y (y_move rfl) rfl ?_
                  refine L_y (y_aslice Try.underlying23 sz5 rfl) rfl ?_
                  refine L_o (o_call Try.func110 rfl rfl (Oct.wraw g _ _ _ _ _ _ _ of.l w18 (S18.get 1 rfl) (rs_id (S18.blk 0 rfl)) (by have h9 := of.h; simp only [List.length_append, headB_len, fanB_len, idsB_len, smsB_len, atsB_len]; omega)) rfl rfl ?_)
                  rintro e22 w22 ⟨v22, rfl, ⟨A22, n22, c22, T22⟩⟩
                  refine ⟨_, rfl, ?_⟩
                  have S22 := S18.turn 1 rfl T22
                  refine L_nil ?_
                  refine hK29 _ _ ?_
                  refine T_seq fun K30 hK30 => ?_
                  refine T_region ?_
                  refine L_y (y_move rfl) rfl ?_
                  refine L_o (o_call Try.func112 rfl rfl (Oct.wbytes g _ _ _ (bodyB l of) w22 (S22.get 1 rfl) (by rw [bodyB_len]; omega)) rfl rfl ?_)
                  rintro e23 w23 ⟨v23, rfl, l23, A70, m70, c70, rfl, O23⟩
                  refine ⟨_, rfl, ?_⟩
                  have S23 := S22.adopt l23 O23
                  refine L_o (o_bsl [_] te177 zz27 S23 rfl rfl rfl rfl rfl rfl rfl rfl fun b24 w24 S24 => ?_)
                  refine L_o (o_call Try.func74 rfl rfl (Sha.shaof [⟨A70, m70, c70, bodyB l of⟩] _ _ _ w24 (S24.row 3 rfl) (fun p hp => by obtain rfl := List.mem_singleton.1 hp; exact S24.row 2 rfl) (by rw [cat1, bodyB_len]; omega) (by simp)) rfl rfl ?_)
                  rintro e25 w25 ⟨v25, rfl, l25, hu25⟩
                  refine ⟨_, rfl, ?_⟩
                  have S25 := S24.like l25
                  rw [cat1] at hu25
                  subst hu25
                  refine L_o (o_alloc zz23 S25 rfl fun b26 w26 hb26 S26 => ?_)
                  refine L_o (o_stW S26 4 rfl rfl rfl (by rw [size_bA, Sha.length_ofL]; exact sz23) (by rw [size_bA, Sha.length_ofL]; rfl) (bL_one _) fun w27 S27 => ?_)
                  refine L_nil ?_
                  refine hK30 _ _ ?_
                  refine T_seq fun K31 hK31 => ?_
                  refine T_region ?_
                  refine L_y (y_move rfl) rfl ?_
                  refine L_y (y_aslice Try.underlying23 sz5 rfl) rfl ?_
                  refine L_o (o_call Try.func110 rfl rfl (Oct.wraw g _ _ _ (bodyB l of) _ _ _ (Sha.ofL (bodyB l of)) w27 (S27.get 1 rfl) (rs_dig (S27.blk 4 rfl)) (by rw [bodyB_len]; omega)) rfl rfl ?_)
                  rintro e28 w28 ⟨v28, rfl, ⟨A28, n28, c28, T28⟩⟩
                  refine ⟨_, rfl, ?_⟩
                  have S28 := S27.turn 1 rfl T28
                  refine L_nil ?_
                  refine hK31 _ _ ?_
                  refine T_seq fun K32 hK32 => ?_
                  refine T_region ?_
                  refine L_y (y_move rfl) rfl ?_
                  refine L_o (o_call Try.func112 rfl rfl (Oct.wbytes g _ _ _ (layB l of) w28 (S28.get 1 rfl) (by unfold layB; rw [List.length_append, bodyB_len, Sha.length_ofL]; omega)) rfl rfl ?_)
                  rintro e29 w29 ⟨v29, rfl, l29, A77, m77, c77, rfl, O29⟩
                  refine ⟨_, rfl, ?_⟩
                  have S29 := S28.adopt l29 O29
                  refine L_y (y_assign rfl) rfl ?_
                  refine L_nil ?_
                  refine hK32 _ _ ?_
                  refine T_ret ?_
                  repeat (first | with_reducible refine up_then ?_ | with_reducible refine up_in ?_)
                  refine ret1 rfl rfl ?_
                  exact ⟨_, rfl, S29.like0, _, _, _, rfl, S29.own 5 rfl⟩
end Go.Proofs.Ytgaklngnfecdaaa.Idx


/-
  make of elements of many cells.
-/
namespace Go.Proofs.Ytgaklngnfecdaaa.Zx
open Go.RowKit Zk
set_option linter.unusedVariables false
set_option linter.unusedSimpArgs false
section
variable {P : Program} {N : Nat} {Q : Exit → Env → World → Prop} {env : Env} {w w0 : World} {M : Nat → Prop} {rs : List Res} {K : Env → World → Prop} {d : Tmp} {ty : TypeId} {pos : String} {after : Array Edge} {g : Option (Nat × Bool)}
theorem o_makeN {t e : TypeId} {z : Value} {size bytes : Nat} {x y : Operand} {k k' : IntKind} {jn jc : Int} {n c : Nat} (TE : Elem P t e z size bytes) (xs : List Value) (hxl : xs.length = n * size) (hxs : ∀ i, i < n * size → xs[i]? = z.cells[i % size]?) (hs0 : 0 < size) (S : St w0 M rs w) (hx : ev env x = some (.int k jn)) (hy : ev env y = some (.int k' jc)) (hn : Nt jn n) (hc : Nt jc c) (hd : Nat.blt d N = true)
    (hnc : n ≤ c) (hbytes : c * bytes ≤ 281474976710656) (hcm : c ≤ 9223372036854775807)
    (h : ∀ b w', St w0 M (rs ++ [row e size (some ⟨b, 0, none⟩) n c xs]) w' → K ((d, .slice (some ⟨b, 0, none⟩) n c) :: env) w') :
    O P N Q ⟨some d, .makeSlice t x y, ty, pos, after, g⟩ env w K := fun a ha => by
  have e1 := hn.eq
  have e2 := hc.eq
  subst e1; subst e2
  obtain ⟨i, hi, hz', hsize, hby⟩ := info_parts TE.hi
  have hb : (i.bytes : Int) * (c : Int) ≤ 281474976710656 := by
    have h : ((i.bytes * c : Nat) : Int) ≤ 281474976710656 := by rw [hby, Nat.mul_comm]; omega
    rwa [Int.natCast_mul] at h
  have hr := run_make (P := P) w t e i z TE.ht hi hz' k k' n c (by omega) (by omega) hb (by omega)
  simp only [Int.toNat_natCast] at hr
  unfold Oper.wp execOp
  simp only [ha.eval hx, ha.eval hy, Sem.run_bind, hr, Result.andThen_ok, Sem.run_pure]
  have hzc : z.cells.size = size := TE.hzs
  have hle : n * size ≤ c * size := Nat.mul_le_mul_right _ hnc
  refine ⟨_, ha.put d _ hd, h _ _ (S.new (like_alloc w _) _ ?_ fun i hi => ?_)⟩
  · refine ⟨hxl, .inr ⟨w.heap.size, c, _, rfl, Nat.zero_le _, heap_alloc_new w _, hnc, by unfold maxLen; omega, ?_, ?_⟩⟩
    · rw [hsize]; simp [madeCells]
    · rw [hsize]
      apply List.ext_getElem?
      intro j
      rw [List.getElem?_take]
      split
      · rename_i hj
        rw [hxs j hj, Array.getElem?_toList, Array.getElem?_eq_getElem (by simp [madeCells]; omega)]
        have hm : j % size < z.cells.size := by rw [hzc]; exact Nat.mod_lt _ hs0
        rw [Array.getElem?_eq_getElem hm]
        simp only [madeCells, Array.getElem_map, Array.getElem_range, hzc]
        rw [getElem!_pos z.cells (j % size) hm]
      · rename_i hj
        exact (List.getElem?_eq_none (by rw [hxl]; omega)).symm
  · change (Value.slice (some ⟨w.heap.size, 0, none⟩) n c).ownBlock = some i at hi
    simp only [Value.ownBlock, Option.some.injEq] at hi
    subst hi
    exact ⟨Nat.le_refl _, by simp⟩
variable {dst : Option Tmp}
/-- A field of many cells of an element. -/
theorem y_ldfN {x : Operand} {A : Option Addr} {n c k size m : Nat} {xs vs : List Value} {lt : TypeId} {d' : TypeDesc} (hd : P.underlying lt = some d') (hrow : d'.isRow = true) (hsz : (P.info? lt).map (·.size) = some m) (hx : ev env x = some (pRF A k)) (hr : Rs w size A n c xs) (hn : 0 < n) (hv : (xs.drop k).take m = vs) (hm : vs.length = m) :
    Y P (Like w) env ⟨dst, .load lt x, ty, pos, after, g⟩ (.agg vs.toArray) := fun N a w' ha hw => by
  subst hv
  obtain ⟨ad, rfl, hb, hcell⟩ := hr.rd.2 (by omega)
  have hagg : (isAgg lt).run P w' = .ok true w' := by
    unfold isAgg
    rw [Sem.run_bind, run_underlying hd w']
    cases d' <;> simp_all [TypeDesc.isRow]
  have h1 := run_loadCells_list (P := P) (w := w') (ad.add k) ((xs.drop k).take m) (fun j v hj => by
    rw [List.getElem?_take] at hj
    split at hj
    · rw [List.getElem?_drop] at hj
      rw [add_of_add]
      exact Like.cell hw (hcell _ _ hj)
    · cases hj)
  rw [hm] at h1
  simp only [execOp, ha.eval hx, pRF, Option.map_some, Instr.loadAt, Instr.sureAddr, loadVar, Sem.run_bind, Sem.run_pure, Result.andThen_ok, hagg, if_true, sizeOf_run hsz, h1]
/-- Of the elements' own cells. -/
theorem flat_part {α : Type} (f : α → List Value) (size : Nat) (hlen : ∀ y, (f y).length = size) (l : List α) (k o m : Nat) (y : α) (h : l[k]? = some y) (ho : o + m ≤ size) : ((l.flatMap f).drop (k * size + o)).take m = ((f y).drop o).take m := by
  rw [← flat_cut f size hlen l k y h, List.drop_take, List.take_take, List.drop_drop, Nat.min_eq_left (by omega)]
/-- 'x[k].f = v' in a row of the call's own, the field of many cells. -/
theorem o_strowF {st : TypeId} {x y : Operand} {e n c k size m : Nat} {A : Option Addr} {xs : List Value} {vs : Array Value} (S : St w0 M rs w) (i : Nat) (hk : rs[i]? = some (row e size A n c xs)) (hx : ev env x = some (pRF A k)) (hy : ev env y = some (.agg vs))
    (hv : ∀ u ∈ vs.toList, u.oneCell' = true) (hvs : vs.size = m) (hsz : (P.info? st).map (·.size) = some m) (hn0 : 0 < n) (hkn : k + m ≤ n * size)
    (h : ∀ w', St w0 M (rs.set i (row e size A n c (xs.take k ++ vs.toList ++ xs.drop (k + m)))) w' → K env w') : O P N Q ⟨none, .store st x y, ty, pos, after, g⟩ env w K := fun a ha => by
  have hown : w.ownsRow 0 e size (.slice A n c) n xs := S.get i hk
  obtain ⟨b, cur, rfl, hg, hnc, hcm, hcs, hxs⟩ := row_cells hown hn0
  have hxa : a.eval x = .pointer (some ⟨b, k, none⟩) := by
    rw [ha.eval hx]
    simp [pRF, Addr.add_mid]
  have hle2 : n * size ≤ c * size := Nat.mul_le_mul_right _ hnc
  have hcl : cur.toList.length = c * size := by rw [Array.length_toList]; exact hcs
  refine wp_stB st x y rfl b k hxa vs (ha.eval hy) e cur hg (by rw [hvs]; exact hsz) (by rw [hvs]; omega) hv fun w' h2 h3 => ⟨env, ha, h w' (S.upd i hk h3.os h3.tape h3.output h3.size (fun j hj hn => h3.block j hj (fun e => hn (by injection e with e; rw [e]; rfl))) ?_ fun j hj => .inl hj)⟩
  have hvl : vs.toList.length = m := by rw [Array.length_toList, hvs]
  refine cells_row h2 hnc hcm ?_ ?_ ?_
  · rw [List.size_toArray, List.length_append, List.length_append, List.length_take, List.length_drop, hvl, hvs, hcl]; omega
  rotate_left
  · rw [List.length_append, List.length_append, List.length_take, List.length_drop, hvl, hown.1]; omega
  rw [hvs]
  show (cur.toList.take k ++ vs.toList ++ cur.toList.drop (k + m)).take (n * size) = _
  have l1 : (cur.toList.take k ++ vs.toList).length = k + m := by rw [List.length_append, List.length_take, hvl]; omega
  rw [List.take_append, l1, List.take_of_length_le (by rw [l1]; omega), ← hxs, List.take_take, Nat.min_eq_left (by omega), List.drop_take]
end
end Go.Proofs.Ytgaklngnfecdaaa.Zx


/-
  Make.
-/
namespace Go.Proofs.Ytgaklngnfecdaaa.Idx
open Go.RowKit Zk Zx
open Oid (idf idf_len cmpL)
set_option linter.unusedVariables false
set_option linter.unusedSimpArgs false

theorem list32 {α : Type} (l : List α) (h : l.length = 32) : ∃ a0 a1 a2 a3 a4 a5 a6 a7 a8 a9 a10 a11 a12 a13 a14 a15 a16 a17 a18 a19 a20 a21 a22 a23 a24 a25 a26 a27 a28 a29 a30 a31, l = [a0, a1, a2, a3, a4, a5, a6, a7, a8, a9, a10, a11, a12, a13, a14, a15, a16, a17, a18, a19, a20, a21, a22, a23, a24, a25, a26, a27, a28, a29, a30, a31] := by
  match l, h with
  | [a0, a1, a2, a3, a4, a5, a6, a7, a8, a9, a10, a11, a12, a13, a14, a15, a16, a17, a18, a19, a20, a21, a22, a23, a24, a25, a26, a27, a28, a29, a30, a31], _ => exact ⟨a0, a1, a2, a3, a4, a5, a6, a7, a8, a9, a10, a11, a12, a13, a14, a15, a16, a17, a18, a19, a20, a21, a22, a23, a24, a25, a26, a27, a28, a29, a30, a31, rfl⟩
theorem built_row (x : Row) : Try.prog.built 119 [(0, .agg (idf x.id).toArray), (1, .int .u32 x.sm), (2, .int .i64 x.at_)] = some (rowf x).toArray := by
  obtain ⟨⟨l, h⟩, s, a⟩ := x
  obtain ⟨a0, a1, a2, a3, a4, a5, a6, a7, a8, a9, a10, a11, a12, a13, a14, a15, a16, a17, a18, a19, a20, a21, a22, a23, a24, a25, a26, a27, a28, a29, a30, a31, rfl⟩ := list32 l h
  kernel_rfl
theorem built_pl (x : Row) : Try.prog.built 62 [(0, .agg (idf x.id).toArray), (1, .int .i64 x.at_), (2, .int .u32 x.sm)] = some (plf x).toArray := by
  obtain ⟨⟨l, h⟩, s, a⟩ := x
  obtain ⟨a0, a1, a2, a3, a4, a5, a6, a7, a8, a9, a10, a11, a12, a13, a14, a15, a16, a17, a18, a19, a20, a21, a22, a23, a24, a25, a26, a27, a28, a29, a30, a31, rfl⟩ := list32 l h
  kernel_rfl

theorem places_len {w : World} {A : Option Addr} {n c : Nat} {l : List Row} (h : Rs w 34 A n c (l.flatMap plf)) : n = l.length := by
  have h2 : (l.flatMap plf).length = n * 34 := h.len
  rw [flat_len plf 34 plf_len] at h2
  omega
/-- Sorted by ids, equal ones side by side; and without equal ones. -/
def WkR (l : List Row) : Prop := ∀ i j (hi : i < l.length) (hj : j < l.length), i < j → Oid.lt l[j].id l[i].id = false
def StR (l : List Row) : Prop := l.Pairwise fun x y => Oid.lt x.id y.id = true
theorem lt_fb {x y : Row} (h : Oid.lt y.id x.id = false) : fb x ≤ fb y := by
  unfold fb
  unfold Oid.lt at h
  have hx := x.id.h
  have hy := y.id.h
  cases ex : x.id.l with
  | nil => rw [ex] at hx; cases hx
  | cons a r =>
    cases ey : y.id.l with
    | nil => rw [ey] at hy; cases hy
    | cons b s =>
      rw [ex, ey] at h
      unfold Oid.belowL at h
      split at h
      · rename_i e; rw [e]; exact Nat.le_refl _
      · have h2 := of_decide_eq_false h
        show a.toNat ≤ b.toNat
        omega
theorem WkR.fs {l : List Row} (h : WkR l) : FS l := by
  unfold FS
  rw [List.pairwise_iff_getElem]
  exact fun i j hi hj hij => lt_fb (h i j hi hj hij)
theorem WkR.strict {l : List Row} (h : WkR l) (hd : ∀ i x y, i + 1 < l.length → l[i]? = some x → l[i + 1]? = some y → x.id ≠ y.id) : StR l := by
  unfold StR
  rw [List.pairwise_iff_getElem]
  intro i j hi hj hij
  have h1 := h i j hi hj hij
  by_cases e : l[j].id = l[i].id
  · exfalso
    have hn := hd i l[i] l[i + 1] (by omega) (List.getElem?_eq_getElem hi) (List.getElem?_eq_getElem (by omega))
    have h2 := h i (i + 1) hi (by omega) (by omega)
    have h3 := Oid.lt_total _ _ h2 (fun q => hn q.symm)
    rcases Nat.lt_or_ge (i + 1) j with q | q
    · have h4 := h (i + 1) j (by omega) hj q
      rw [e, h3] at h4
      cases h4
    · have e2 : j = i + 1 := by omega
      subst e2
      exact hn e.symm
  · exact Oid.lt_total _ _ h1 e
theorem StR.nodup {l : List Row} (h : StR l) : (l.map Row.id).Nodup := by
  unfold List.Nodup
  rw [List.pairwise_map]
  exact h.imp fun hab e => by rw [e, Oid.lt_irr] at hab; cases hab
theorem not_nodup {l : List Row} {i : Nat} {x y : Row} (hx : l[i]? = some x) (hy : l[i + 1]? = some y) (e : x.id = y.id) : ¬ (l.map Row.id).Nodup := fun hn => by
  unfold List.Nodup at hn
  rw [List.pairwise_iff_getElem] at hn
  obtain ⟨h1, h2⟩ := List.getElem?_eq_some_iff.1 hx
  obtain ⟨h3, h4⟩ := List.getElem?_eq_some_iff.1 hy
  refine hn i (i + 1) (by simpa using h1) (by simpa using h3) (by omega) ?_
  simp [h2, h4, e]
theorem row_part {l : List Row} {k : Nat} {x : Row} (h : l[k]? = some x) : ((l.flatMap rowf).drop (k * 34 + 0)).take 32 = idf x.id := by
  rw [flat_part rowf 34 rowf_len l k 0 32 x h (by omega)]
  exact (row_id x).1
def farB (x : Row) : Bool := decide (x.at_ < 0) || decide (1048576 < x.at_)
theorem any_step {l : List Row} {k : Nat} {x : Row} (hx : l[k]? = some x) : (l.take (k + 1)).any farB = ((l.take k).any farB || farB x) := by
  rw [List.take_add_one, hx, List.any_append]
  simp
/-- The error of an index of places. -/
def mkE (l : List Row) : Int := if 600 < l.length then 5 else if ¬ (l.map Row.id).Nodup then 17 else if l.any farB then 2 else 0
structure SumOk (x : Row) : Prop where
  s0 : 0 ≤ x.sm
  s1 : x.sm ≤ 4294967295
theorem rowOk_of {l : List Row} (hs : ∀ x ∈ l, SumOk x) (h : l.any farB = false) : ∀ x ∈ l, RowOk x := fun x hx => by
  rw [List.any_eq_false] at h
  have h1 := h x hx
  simp [farB] at h1
  exact ⟨(hs x hx).s0, (hs x hx).s1, h1.1, h1.2⟩
/-- What Make answers: an error, or the bytes of the sorted rows. -/
def Made (l : List Row) (of : Oid.Id) (bs : List UInt8) : Prop := (mkE l ≠ 0 ∧ bs = []) ∨ (mkE l = 0 ∧ ∃ zs : List Row, zs.Perm l ∧ StR zs ∧ bs = layB zs of)


set_option maxRecDepth 100000 in
theorem make (A : Option Addr) (n c : Nat) (l : List Row) (of : Oid.Id) (w0 : World) (hl : Rs w0 34 A n c (l.flatMap plf)) (hsm : ∀ x ∈ l, SumOk x) :
    Calls Try.prog 25 #[.slice A n c, .agg (idf of).toArray] w0 fun e w' => ∃ u, e = .returned u ∧ Like w0 w' ∧ ∃ A' m c' bs, u = .tuple #[.slice A' m c', .int .i64 (mkE l)] ∧ Made l of bs ∧ w'.ownsRow w0.heap.size 5 1 (.slice A' m c') m (bL bs) := by
  refine enter1 (env := [(0, .slice A n c), (1, .agg (idf of).toArray)]) [.slice A n c, .agg (idf of).toArray] Try.func25 rfl Try.ntmps25 rfl rfl ?_
  have hn := places_len hl; have hcap := hl.cap; have hmax := hl.max
  have S0 := St.start w0 noM
  refine T_seq fun K1 hK1 => ?_
  refine T_region ?_
  refine L_o (o_box rfl S0 rfl fun b1 w1 hb1 S1 => ?_)
  refine L_y (y_assign rfl) rfl ?_
  refine L_y (y_assign rfl) rfl ?_
  refine L_nil ?_
  refine hK1 _ _ ?_
  refine T_seq fun K2 hK2 => ?_
  refine T_seq fun K3 hK3 => ?_
  refine T_region ?_
  refine L_y (y_move rfl) rfl ?_
  refine L_y (y_len Try.underlying43 rfl) rfl ?_
  refine L_y (y_gtr rfl rfl) rfl ?_
  refine L_nil ?_
  refine hK3 _ _ ?_
  refine T_cond rfl (fun h13 => ?_) (fun h13 => ?_)
  ·
    refine T_seq fun K4 hK4 => ?_
    refine T_region ?_
    refine L_y (y_assign rfl) rfl ?_
    refine L_y (y_assign rfl) rfl ?_
    refine L_nil ?_
    refine hK4 _ _ ?_
    refine T_ret ?_
    repeat (first | with_reducible refine up_then ?_ | with_reducible refine up_in ?_)
    refine ret2 rfl rfl rfl ?_
    have he : mkE l = 5 := by unfold mkE; rw [if_pos (by omega)]
    exact ⟨_, rfl, S1.like0, none, 0, 0, [], by rw [he], .inl ⟨by rw [he]; decide, rfl⟩, World.ownsRow_nil _ _ _ _⟩
  ·
    refine T_skip ?_
    refine hK2 _ _ ?_
    refine T_seq fun K5 hK5 => ?_
    refine T_region ?_
    refine L_y (y_move rfl) rfl ?_
    refine L_y (y_len Try.underlying43 rfl) rfl ?_
    refine L_o (o_makeN te94 [] (by simp) (fun i hi => by omega) (by omega) S1 rfl rfl inferInstance inferInstance rfl (by omega) (by omega) (by omega) fun b2 w2 S2 => ?_)
    refine L_y (y_assign rfl) rfl ?_
    refine L_nil ?_
    refine hK5 _ _ ?_
    refine T_seq fun K6 hK6 => ?_
    refine T_region ?_
    refine L_y (y_assign rfl) rfl ?_
    refine L_nil ?_
    refine hK6 _ _ ?_
    refine T_seq fun K7 hK7 => ?_
    refine T_seq fun K8 hK8 => ?_
    refine T_region ?_
    refine L_y (y_move rfl) rfl ?_
    refine L_y (y_len Try.underlying43 rfl) rfl ?_
    refine L_y (y_move rfl) rfl ?_
    refine L_nil ?_
    refine hK8 _ _ ?_
    refine T_block ?_
    refine T_loop3 [(3, _), (17, _), (18, _)] (fun (k : Nat) (A1 : Option Addr) (c1 : Nat) => [(19, .int .i64 (k : Int)), (6, .slice A1 k c1), (7, .bool ((l.take k).any farB))]) (fun (k : Nat) (A1 : Option Addr) (c1 : Nat) => l.length - k) (fun (k : Nat) (A1 : Option Addr) (c1 : Nat) (w : World) => k ≤ l.length ∧ Zx.St w0 noM [blk b1 23 (idf of).toArray, Zx.row 119 34 A1 k c1 ((l.take k).flatMap rowf)] w) 0 _ _ (Sub.cons rfl (by first | rfl | exact congrArg (Value.int _) (by omega)) (Sub.cons rfl (by first | rfl | exact congrArg (Value.int _) (by omega)) (Sub.cons rfl (by first | rfl | exact congrArg (Value.int _) (by omega)) (Sub.nil _)))) (Sub.cons rfl rfl (Sub.cons rfl rfl (Sub.cons rfl rfl (Sub.nil _)))) ?_ ?_
    ·
      exact ⟨by omega, S2⟩
    ·
      intro k A1 c1 w3 hrel
      obtain ⟨hk, S3⟩ := hrel
      refine T_seq fun K9 hK9 => ?_
      refine T_region ?_
      refine L_y (y_lss rfl rfl) rfl ?_
      refine L_nil ?_
      refine hK9 _ _ ?_
      refine T_seq fun K10 hK10 => ?_
      refine T_cond rfl (fun h20 => ?_) (fun h20 => ?_)
      ·
        obtain ⟨x, hx⟩ : ∃ x, l[k]? = some x := ⟨_, List.getElem?_eq_getElem (by omega)⟩
        refine T_skip ?_
        refine hK10 _ _ ?_
        refine T_seq fun K11 hK11 => ?_
        refine T_block ?_
        refine T_seq fun K12 hK12 => ?_
        refine T_region ?_
        refine L_y (y_idx Try.underlying43 sz62 rfl rfl (by first | exact S3.rd hl | exact S3.row 1 rfl) inferInstance (by omega)) rfl ?_
        refine L_y (y_ldp (f := plf) plf_len Try.underlying62 rfl sz62 rfl (S3.rd hl) (by omega) hx) rfl ?_
        refine L_o (o_alloc zz62 S3 rfl fun b4 w4 hb4 S4 => ?_)
        refine L_o (o_stW S4 2 rfl rfl rfl (by rw [plf_sz]; exact sz62) (by rw [plf_sz]; rfl) (fun u hu => plf_one _ u (by rw [List.toList_toArray] at hu; exact hu)) fun w5 S5 => ?_)
        refine L_nil ?_
        refine hK12 _ _ ?_
        refine T_seq fun K13 hK13 => ?_
        refine T_region ?_
        refine L_y (y_move rfl) rfl ?_
        refine L_y (y_fieldA 0 Try.underlying62 rfl sz23 rfl rfl rfl) rfl ?_
        refine L_y (y_ldW Try.underlying23 rfl sz23 rfl (S5.blk 2 rfl) (pl_id x)) rfl ?_
        refine L_y (y_fieldA 33 Try.underlying62 rfl sz60 rfl rfl rfl) rfl ?_
        refine L_y (y_ldc Try.underlying60 rfl rfl (((S5.blk 2 rfl).cell _).trans (pl33 x))) rfl ?_
        refine L_y (y_fieldA 32 Try.underlying62 rfl sz3 rfl rfl rfl) rfl ?_
        refine L_y (y_ldc Try.underlying3 rfl rfl (((S5.blk 2 rfl).cell _).trans (pl32 x))) rfl ?_
        refine L_y (y_build rfl (built_row x)) rfl ?_
        refine L_o (o_bsl (rowf x) te94 zz119 S5 rfl rfl rfl (by simp [Value.cells, rowf_len]) (by simp [Value.cells]) rfl rfl rfl fun b6 w6 S6 => ?_)
        refine L_o (o_app te94 S6 1 rfl rfl rfl (by first | exact S6.rd hl | exact S6.row 1 rfl | exact S6.row 3 rfl) (rowf_one _) rfl (by omega) (by omega) fun A7 c7 w7 S7 => ?_)
        have S7d := S7.drop (rs' := [_, _, _]) (.cons_cons _ (.cons_cons _ (.cons_cons _ (.cons _ (.refl _)))))
        refine L_y (y_assign rfl) rfl ?_
        refine L_nil ?_
        refine hK13 _ _ ?_
        refine T_region ?_
        refine L_y (y_move rfl) rfl ?_
        refine L_y (y_move rfl) rfl ?_
        refine L_splitB 34 rfl (fun h34 => ?_) (fun h34 => ?_)
        ·
          refine L_gno rfl rfl rfl ?_
          refine L_gno rfl rfl rfl ?_
          refine L_gno rfl rfl rfl ?_
          refine L_y ((by first | exact y_pickT rfl rfl | exact y_pickF rfl rfl)) rfl ?_
          refine L_y (y_move rfl) rfl ?_
          refine L_gno rfl rfl rfl ?_
          refine L_gno rfl rfl rfl ?_
          refine L_gno rfl rfl rfl ?_
          refine L_y ((by first | exact y_pickT rfl rfl | exact y_pickF rfl rfl)) rfl ?_
          refine L_y (y_assign rfl) rfl ?_
          refine L_nil ?_
          refine hK11 _ _ ?_
          refine T_region ?_
          refine L_y (y_add rfl rfl (i64w (by omega))) rfl ?_
          refine L_y (y_move rfl) rfl ?_
          refine L_nil ?_
          have S91 := S7d.sel [0, 1] (by decide)
          have S92 := S91.rowc 1 rfl (n' := k + 1) (xs' := (l.take (k + 1)).flatMap rowf) rfl (take1 rowf hx).symm
          refine ⟨k + 1, _, _, by omega, ⟨by omega, S92⟩, ?_⟩
          exact (Sub.cons rfl (by first | rfl | exact congrArg (Value.int _) (by omega)) (Sub.cons rfl (by first | rfl | exact congrArg (Value.int _) (by omega)) (Sub.cons rfl (congrArg Value.bool (by rw [any_step hx]; first | (rw [show (l.take k).any farB = true from h34]; rfl) | (rw [show (l.take k).any farB = false from h34]; simp [farB, h39]) )) (Sub.cons rfl rfl (Sub.cons rfl rfl (Sub.cons rfl rfl (Sub.nil _)))))))
        ·
          refine L_gyes rfl rfl ?_
          refine L_y (y_fieldA 32 Try.underlying62 rfl sz3 rfl rfl rfl) rfl ?_
          refine L_gyes rfl rfl ?_
          refine L_y (y_ldc Try.underlying3 rfl rfl (((S7d.blk 2 rfl).cell _).trans (pl32 x))) rfl ?_
          refine L_gyes rfl rfl ?_
          refine L_y (y_lss rfl rfl) rfl ?_
          refine L_y ((by first | exact y_pickT rfl rfl | exact y_pickF rfl rfl)) rfl ?_
          refine L_y (y_move rfl) rfl ?_
          refine L_split 39 rfl (fun h39 => ?_) (fun h39 => ?_)
          ·
            refine L_gno rfl rfl rfl ?_
            refine L_gno rfl rfl rfl ?_
            refine L_gno rfl rfl rfl ?_
            refine L_y ((by first | exact y_pickT rfl rfl | exact y_pickF rfl rfl)) rfl ?_
            refine L_y (y_assign rfl) rfl ?_
            refine L_nil ?_
            refine hK11 _ _ ?_
            refine T_region ?_
            refine L_y (y_add rfl rfl (i64w (by omega))) rfl ?_
            refine L_y (y_move rfl) rfl ?_
            refine L_nil ?_
            have S91 := S7d.sel [0, 1] (by decide)
            have S92 := S91.rowc 1 rfl (n' := k + 1) (xs' := (l.take (k + 1)).flatMap rowf) rfl (take1 rowf hx).symm
            refine ⟨k + 1, _, _, by omega, ⟨by omega, S92⟩, ?_⟩
            exact (Sub.cons rfl (by first | rfl | exact congrArg (Value.int _) (by omega)) (Sub.cons rfl (by first | rfl | exact congrArg (Value.int _) (by omega)) (Sub.cons rfl (congrArg Value.bool (by rw [any_step hx]; first | (rw [show (l.take k).any farB = true from h34]; rfl) | (rw [show (l.take k).any farB = false from h34]; simp [farB, h39]) )) (Sub.cons rfl rfl (Sub.cons rfl rfl (Sub.cons rfl rfl (Sub.nil _)))))))
          ·
            refine L_gyes rfl rfl ?_
            refine L_y (y_fieldA 32 Try.underlying62 rfl sz3 rfl rfl rfl) rfl ?_
            refine L_gyes rfl rfl ?_
            refine L_y (y_ldc Try.underlying3 rfl rfl (((S7d.blk 2 rfl).cell _).trans (pl32 x))) rfl ?_
            refine L_gyes rfl rfl ?_
            refine L_y (y_gtr rfl rfl) rfl ?_
            refine L_y ((by first | exact y_pickT rfl rfl | exact y_pickF rfl rfl)) rfl ?_
            refine L_y (y_assign rfl) rfl ?_
            refine L_nil ?_
            refine hK11 _ _ ?_
            refine T_region ?_
            refine L_y (y_add rfl rfl (i64w (by omega))) rfl ?_
            refine L_y (y_move rfl) rfl ?_
            refine L_nil ?_
            have S91 := S7d.sel [0, 1] (by decide)
            have S92 := S91.rowc 1 rfl (n' := k + 1) (xs' := (l.take (k + 1)).flatMap rowf) rfl (take1 rowf hx).symm
            refine ⟨k + 1, _, _, by omega, ⟨by omega, S92⟩, ?_⟩
            exact (Sub.cons rfl (by first | rfl | exact congrArg (Value.int _) (by omega)) (Sub.cons rfl (by first | rfl | exact congrArg (Value.int _) (by omega)) (Sub.cons rfl (congrArg Value.bool (by rw [any_step hx]; first | (rw [show (l.take k).any farB = true from h34]; rfl) | (rw [show (l.take k).any farB = false from h34]; simp [farB, h39]) )) (Sub.cons rfl rfl (Sub.cons rfl rfl (Sub.cons rfl rfl (Sub.nil _)))))))
      ·
        have hke : k = l.length := by omega
        subst hke
        rw [List.take_length] at S3
        refine T_exit ?_
        refine hK7 _ _ ?_
        refine T_seq fun K14 hK14 => ?_
        refine T_region ?_
        refine L_y (y_move rfl) rfl ?_
        refine L_o (o_call Try.func63 rfl rfl (sortRA A1 l.length c1 l w3 rfl (S3.get 1 rfl) (by omega)) rfl rfl ?_)
        rintro e10 w10 ⟨v10, rfl, zs, hp, hwk, T10⟩
        refine ⟨_, rfl, ?_⟩
        have S10 := S3.turn 1 rfl T10
        have hzl : zs.length = l.length := hp.length_eq
        refine L_nil ?_
        refine hK14 _ _ ?_
        refine T_seq fun K15 hK15 => ?_
        refine T_seq fun K16 hK16 => ?_
        refine T_region ?_
        refine L_y (y_assign rfl) rfl ?_
        refine L_nil ?_
        refine hK16 _ _ ?_
        refine T_block ?_
        refine T_loop1 [(3, _), (6, _), (7, _)] (fun (j : Nat) => [(10, .int .i64 (j : Int))]) (fun (j : Nat) => zs.length - j) (fun (j : Nat) (w : World) => (1 ≤ j ∧ ∀ i x y, i + 1 < j → zs[i]? = some x → zs[i + 1]? = some y → x.id ≠ y.id) ∧ Zx.St w0 noM [blk b1 23 (idf of).toArray, Zx.row 119 34 A1 l.length c1 (zs.flatMap rowf)] w) 1 (Sub.cons rfl (by first | rfl | exact congrArg (Value.int _) (by omega)) (Sub.nil _)) (Sub.cons rfl rfl (Sub.cons rfl rfl (Sub.cons rfl rfl (Sub.nil _)))) ?_ ?_
        ·
          exact ⟨⟨by omega, fun i x y hi => by omega⟩, S10⟩
        ·
          intro j w11 hrel
          obtain ⟨⟨hj, hdf⟩, S11⟩ := hrel
          refine T_seq fun K17 hK17 => ?_
          refine T_seq fun K18 hK18 => ?_
          refine T_region ?_
          refine L_y (y_move rfl) rfl ?_
          refine L_y (y_move rfl) rfl ?_
          refine L_y (y_len Try.underlying94 rfl) rfl ?_
          refine L_y (y_lss rfl rfl) rfl ?_
          refine L_nil ?_
          refine hK18 _ _ ?_
          refine T_cond rfl (fun h50 => ?_) (fun h50 => ?_)
          ·
            obtain ⟨p, hx1⟩ : ∃ x, zs[j - 1]? = some x := ⟨_, List.getElem?_eq_getElem (by omega)⟩
            obtain ⟨q, hx2⟩ : ∃ x, zs[j]? = some x := ⟨_, List.getElem?_eq_getElem (by omega)⟩
            refine T_skip ?_
            refine hK17 _ _ ?_
            refine T_seq fun K19 hK19 => ?_
            refine T_block ?_
            refine T_seq fun K20 hK20 => ?_
            refine T_drawnL [(0, true), (1, true), (2, true), (3, true), (4, true), (5, true), (6, true), (7, true), (8, true), (9, true), (10, true), (11, true)] hmix (by kernel_rfl) fun w12 l12 => ?_
            have S12 := S11.like l12
            refine DL_y rfl (y_move rfl) rfl ?_
            refine DL_y rfl (y_move rfl) rfl ?_
            refine DL_y rfl (y_sub rfl rfl (i64w (by omega))) rfl ?_
            refine DL_y rfl (y_idx Try.underlying94 sz119 rfl rfl (S12.row 1 rfl) (Nt.mk (by omega) : Nt _ (j - 1)) (by omega)) rfl ?_
            refine DL_y rfl (y_fieldR 0 Try.underlying119 rfl sz23 rfl rfl (S12.row 1 rfl) (by omega) rfl) rfl ?_
            refine DL_y rfl (y_ldfN Try.underlying23 rfl sz23 rfl (S12.row 1 rfl) (by omega) (row_part hx1) (idf_len _)) rfl ?_
            refine DL_y rfl (y_move rfl) rfl ?_
            refine DL_y rfl (y_move rfl) rfl ?_
            refine DL_y rfl (y_idx Try.underlying94 sz119 rfl rfl (S12.row 1 rfl) inferInstance (by omega)) rfl ?_
            refine DL_y rfl (y_fieldR 0 Try.underlying119 rfl sz23 rfl rfl (S12.row 1 rfl) (by omega) rfl) rfl ?_
            refine DL_y rfl (y_ldfN Try.underlying23 rfl sz23 rfl (S12.row 1 rfl) (by omega) (row_part hx2) (idf_len _)) rfl ?_
            refine DL_y rfl (y_eqB Try.underlying23 Try.underlying5 sz5 (by kernel_rfl) rfl rfl (Oid.Id.h _) (Oid.Id.h _)) rfl ?_
            refine DL_nil ?_
            refine hK20 _ _ ?_
            refine T_cond rfl (fun h64 => ?_) (fun h64 => ?_)
            ·
              have hnn : ¬ (l.map Row.id).Nodup := fun hn9 => not_nodup hx1 (by rw [show j - 1 + 1 = j by omega]; exact hx2) (Oid.Id.ext h64) ((hp.map Row.id).nodup_iff.2 hn9)
              refine T_seq fun K21 hK21 => ?_
              refine T_region ?_
              refine L_y (y_assign rfl) rfl ?_
              refine L_y (y_assign rfl) rfl ?_
              refine L_nil ?_
              refine hK21 _ _ ?_
              refine T_ret ?_
              repeat (first | with_reducible refine up_then ?_ | with_reducible refine up_in ?_)
              refine ret2 rfl rfl rfl ?_
              have he : mkE l = 17 := by unfold mkE; rw [if_neg (by omega), if_pos hnn]
              exact ⟨_, rfl, S12.like0, none, 0, 0, [], by rw [he], .inl ⟨by rw [he]; decide, rfl⟩, World.ownsRow_nil _ _ _ _⟩
            ·
              refine T_skip ?_
              refine hK19 _ _ ?_
              refine T_region ?_
              refine L_y (y_move rfl) rfl ?_
              refine L_y (y_add rfl rfl (i64w (by omega))) rfl ?_
              refine L_y (y_assign rfl) rfl ?_
              refine L_nil ?_
              refine ⟨j + 1, by omega, ⟨⟨by omega, fun i x y hi hx hy => by rcases Nat.lt_or_ge (i + 1) j with q | q; exact hdf i x y q hx hy; (have e9 : i = j - 1 := by omega); subst e9; rw [hx1] at hx; cases hx; rw [show j - 1 + 1 = j by omega, hx2] at hy; cases hy; exact fun e => h64 (by rw [e])⟩, S12⟩, ?_⟩
              exact (Sub.cons rfl (by first | rfl | exact congrArg (Value.int _) (by omega)) (Sub.cons rfl rfl (Sub.cons rfl rfl (Sub.cons rfl rfl (Sub.nil _)))))
          ·
            have hst : StR zs := WkR.strict hwk (fun i x y hi hx hy => hdf i x y (by omega) hx hy)
            have hnd : (l.map Row.id).Nodup := (hp.map Row.id).nodup_iff.1 hst.nodup
            refine T_exit ?_
            refine hK15 _ _ ?_
            refine T_seq fun K22 hK22 => ?_
            refine T_seq fun K23 hK23 => ?_
            refine T_region ?_
            refine L_y (y_move rfl) rfl ?_
            refine L_nil ?_
            refine hK23 _ _ ?_
            refine T_condB rfl (fun h65 => ?_) (fun h65 => ?_)
            ·
              refine T_seq fun K24 hK24 => ?_
              refine T_region ?_
              refine L_y (y_assign rfl) rfl ?_
              refine L_y (y_assign rfl) rfl ?_
              refine L_nil ?_
              refine hK24 _ _ ?_
              refine T_ret ?_
              repeat (first | with_reducible refine up_then ?_ | with_reducible refine up_in ?_)
              refine ret2 rfl rfl rfl ?_
              have he : mkE l = 2 := by unfold mkE; rw [if_neg (by omega), if_neg (fun h => h hnd), if_pos (by simpa using h65)]
              exact ⟨_, rfl, S11.like0, none, 0, 0, [], by rw [he], .inl ⟨by rw [he]; decide, rfl⟩, World.ownsRow_nil _ _ _ _⟩
            ·
              refine T_skip ?_
              refine hK22 _ _ ?_
              refine T_seq fun K25 hK25 => ?_
              refine T_region ?_
              refine L_y (y_move rfl) rfl ?_
              refine L_y (y_ldW Try.underlying23 rfl sz23 rfl (S11.blk 0 rfl) (⟨by rw [List.drop_zero]; exact List.take_of_length_le (by simp [idf_len]), by rw [idf_len]⟩ : _ = idf of ∧ _)) rfl ?_
              refine L_o (o_call Try.func65 rfl rfl (lay A1 l.length c1 zs of w11 (S11.row 1 rfl) (WkR.fs hwk) (fun x hx => rowOk_of hsm (by simpa using h65) x (hp.mem_iff.1 hx)) (by omega)) rfl rfl ?_)
              rintro e13 w13 ⟨v13, rfl, l13, A', m', c', rfl, O13⟩
              refine ⟨_, rfl, ?_⟩
              have S13 := S11.adopt l13 O13
              refine L_y (y_assign rfl) rfl ?_
              refine L_y (y_assign rfl) rfl ?_
              refine L_nil ?_
              refine hK25 _ _ ?_
              refine T_ret ?_
              repeat (first | with_reducible refine up_then ?_ | with_reducible refine up_in ?_)
              refine ret2 rfl rfl rfl ?_
              have he : mkE l = 0 := by unfold mkE; rw [if_neg (by omega), if_neg (fun h => h hnd), if_neg (by simp only [List.take_length] at h65; rw [h65]; decide)]
              exact ⟨_, rfl, S13.like0, A', m', c', _, by rw [he], .inr ⟨he, zs, hp, hst, rfl⟩, S13.own 2 rfl⟩
end Go.Proofs.Ytgaklngnfecdaaa.Idx


/-
  The Reader.
-/
namespace Go.Proofs.Ytgaklngnfecdaaa.Oct
open Go.RowKit Zk Zx
set_option linter.unusedVariables false
set_option linter.unusedSimpArgs false

def rdr (g : Nat) (A : Option Addr) (n c : Nat) (l : List UInt8) (p q : Nat) : Res := both (blk g 179 #[.slice A n c, .int .i64 (p : Int), .int .i64 (q : Int)]) (row 5 1 A n c (bL l))
theorem rdr_apart {w : World} {g n c p q : Nat} {A : Option Addr} {l : List UInt8} (h : (rdr g A n c l p q).holds w) : ∀ i, (blk g 179 #[.slice A n c, .int .i64 (p : Int), .int .i64 (q : Int)]).dom i → ¬ (row 5 1 A n c (bL l)).dom i := fun i hi hr => by
  have hi' : i = g := hi
  subst hi'
  exact own_blk_ne (e := 5) h.2 h.1 (by decide) hr
theorem rdr_lt {w : World} {g n c p q : Nat} {A : Option Addr} {l : List UInt8} (h : (rdr g A n c l p q).holds w) : ∀ i, (rdr g A n c l p q).dom i → i < w.heap.size := fun i hi => by
  rcases hi with hi | hi
  · have hi' : i = g := hi
    subst hi'
    exact Blk.lt h.1
  · exact (World.ownsRow.lt h.2 i hi).2
theorem rdr_len {w : World} {g n c p q : Nat} {A : Option Addr} {l : List UInt8} (h : (rdr g A n c l p q).holds w) : l.length = n := by
  have := h.2.1
  simpa using this
/-- What so many bytes are, where they begin, and what is wrong. -/
def tkL (l : List UInt8) (p k : Nat) : List UInt8 := if k ≤ l.length - p then (l.drop p).take k else []
def tkP (l : List UInt8) (p k : Nat) : Nat := if k ≤ l.length - p then p + k else p
def tkE (l : List UInt8) (p k q : Nat) : Nat := if k ≤ l.length - p then q else 10
theorem fresh_ {w0 w : World} {rs : List Res} (S : St w0 noM rs w) (k : Nat) {r : Res} (hk : rs[k]? = some r) : ∀ i, r.dom i → w0.heap.size ≤ i ∧ i < w.heap.size := fun i hi => by
  have := (S.res r (List.mem_of_getElem? hk)).2 i hi
  rcases this.2 with h | h
  · exact ⟨h, this.1⟩
  · exact h.elim
theorem Rdd.of {w w' : World} {g n c p q : Nat} {A : Option Addr} {l : List UInt8} {r : Res} {X : Array Value} (h : Turned w w' r (both (blk g 179 X) (row 5 1 A n c (bL l)))) (hX : X = #[.slice A n c, .int .i64 (p : Int), .int .i64 (q : Int)]) : Turned w w' r (rdr g A n c l p q) := by
  subst hX
  exact h


set_option maxRecDepth 100000 in
theorem rdead (g : Nat) (A : Option Addr) (n c : Nat) (l : List UInt8) (p q : Nat) (w0 : World) (hw : (rdr g A n c l p q).holds w0) (hp : p ≤ l.length) :
    Calls Try.prog 113 #[.pointer (some ⟨g, 0, none⟩)] w0 fun e w' => ∃ u, e = .returned u ∧ Like w0 w' ∧ u = .bool (decide ((q : Int) ≠ 0)) := by
  refine enter1 (env := [(0, .pointer (some ⟨g, 0, none⟩))]) [.pointer (some ⟨g, 0, none⟩)] Try.func113 rfl Try.ntmps113 rfl rfl ?_
  have hnl := rdr_len hw; have hnc := ownsRow_cap hw.2; have S0 := St.start w0 noM
  refine T_seq fun K1 hK1 => ?_
  refine T_region ?_
  refine L_y (y_assign rfl) rfl ?_
  refine L_nil ?_
  refine hK1 _ _ ?_
  refine T_seq fun K2 hK2 => ?_
  refine T_region ?_
  refine L_y (y_move rfl) rfl ?_
  refine L_y (y_peqn Try.underlying130 rfl) rfl ?_
  refine L_y (y_move rfl) rfl ?_
  refine L_gyes rfl rfl ?_
  refine L_y (y_move rfl) rfl ?_
  refine L_gyes rfl rfl ?_
  refine L_y (y_nilp rfl) rfl ?_
  refine L_gyes rfl rfl ?_
  refine L_y (y_fieldA 2 Try.underlying179 rfl sz28 rfl rfl rfl) rfl ?_
  refine L_gyes rfl rfl ?_
  refine L_y (y_ldc Try.underlying28 rfl rfl (((S0.rdB hw.1).cell _).trans (show (#[.slice A n c, .int .i64 (p : Int), .int .i64 (q : Int)] : Array Value)[2]? = some (Value.int .i64 (q : Int)) from rfl))) rfl ?_
  refine L_gyes rfl rfl ?_
  refine L_y (y_neq rfl rfl) rfl ?_
  refine L_y (y_pickF rfl rfl) rfl ?_
  refine L_y (y_assign rfl) rfl ?_
  refine L_nil ?_
  refine hK2 _ _ ?_
  refine T_ret ?_
  repeat (first | with_reducible refine up_then ?_ | with_reducible refine up_in ?_)
  refine ret1 rfl rfl ?_
  exact ⟨_, rfl, S0.like0, rfl⟩


set_option maxRecDepth 100000 in
theorem rtake (g : Nat) (A : Option Addr) (n c : Nat) (l : List UInt8) (p q : Nat) (k : Nat) (w0 : World) (hw : (rdr g A n c l p q).holds w0) (hp : p ≤ l.length) (hk63 : k ≤ 9223372036854775807) (hn62 : n ≤ 4611686018427387904) :
    Calls Try.prog 115 #[.pointer (some ⟨g, 0, none⟩), .int .i64 (k : Int)] w0 fun e w' => ∃ u, e = .returned u ∧ ∃ B c2, u = .slice B (tkL l p k).length c2 ∧ Rs w' 1 B (tkL l p k).length c2 (bL (tkL l p k)) ∧ Turned w0 w' (rdr g A n c l p q) (rdr g A n c l (tkP l p k) (tkE l p k q)) := by
  refine enter1 (env := [(0, .pointer (some ⟨g, 0, none⟩)), (1, .int .i64 (k : Int))]) [.pointer (some ⟨g, 0, none⟩), .int .i64 (k : Int)] Try.func115 rfl Try.ntmps115 rfl rfl ?_
  have hnl := rdr_len hw; have hnc := ownsRow_cap hw.2; have S0 := St.borrow2 (blk g 179 #[.slice A n c, .int .i64 (p : Int), .int .i64 (q : Int)]) (row 5 1 A n c (bL l)) hw.1 hw.2 (rdr_lt hw) (rdr_apart hw)
  refine T_seq fun K1 hK1 => ?_
  refine T_region ?_
  refine L_y (y_assign rfl) rfl ?_
  refine L_nil ?_
  refine hK1 _ _ ?_
  refine T_seq fun K2 hK2 => ?_
  refine T_seq fun K3 hK3 => ?_
  refine T_drawnL [(0, true), (1, true), (2, true), (3, true), (4, true), (5, true), (6, true), (7, true), (8, true), (9, true), (10, true), (11, true)] hmix (by kernel_rfl) fun w1 l1 => ?_
  have S1 := S0.like l1
  refine DL_y rfl (y_move rfl) rfl ?_
  refine DL_y rfl (y_move rfl) rfl ?_
  refine DL_y rfl (y_nilp rfl) rfl ?_
  refine DL_y rfl (y_fieldA 0 Try.underlying179 rfl sz27 rfl rfl rfl) rfl ?_
  refine DL_y rfl (y_ldc Try.underlying27 rfl rfl (((S1.blk 0 rfl).cell _).trans (by rfl))) rfl ?_
  refine DL_y rfl (y_len Try.underlying27 rfl) rfl ?_
  refine DL_y rfl (y_move rfl) rfl ?_
  refine DL_y rfl (y_nilp rfl) rfl ?_
  refine DL_y rfl (y_fieldA 1 Try.underlying179 rfl sz3 rfl rfl rfl) rfl ?_
  refine DL_y rfl (y_ldc Try.underlying3 rfl rfl (((S1.blk 0 rfl).cell _).trans (by rfl))) rfl ?_
  refine DL_y rfl (y_sub rfl rfl (i64w (by omega))) rfl ?_
  refine DL_y rfl (y_gtr rfl rfl) rfl ?_
  refine DL_nil ?_
  refine hK3 _ _ ?_
  refine T_cond rfl (fun h17 => ?_) (fun h17 => ?_)
  ·
    have hk : ¬ k ≤ l.length - p := by omega
    refine T_seq fun K4 hK4 => ?_
    refine T_region ?_
    refine L_y (y_move rfl) rfl ?_
    refine L_y (y_nilp rfl) rfl ?_
    refine L_y (y_fieldA 2 Try.underlying179 rfl sz28 rfl rfl rfl) rfl ?_
    refine L_o (o_st1 S1 0 rfl rfl rfl rfl sz28 (by simp; done) fun w2 S2 => ?_)
    refine L_nil ?_
    refine hK4 _ _ ?_
    refine T_seq fun K5 hK5 => ?_
    refine T_region ?_
    refine L_y (y_assign rfl) rfl ?_
    refine L_nil ?_
    refine hK5 _ _ ?_
    refine T_ret ?_
    repeat (first | with_reducible refine up_then ?_ | with_reducible refine up_in ?_)
    refine ret1 rfl rfl ?_
    first | exact ⟨_, rfl, none, 0, (by rw [tkL, if_neg hk]; rfl), (by rw [tkL, if_neg hk]; exact Rs.nil _ _), Rdd.of (S2.turned2 0 1 rfl rfl) (by rw [tkP, tkE, if_neg hk, if_neg hk]; rfl)⟩ | exact ⟨_, rfl, cutA A c p 1, c - p, (by rw [e2]), (by rw [e2, e1]; exact (S2.row 1 rfl).cutb (by omega) (by omega)), Rdd.of (S2.turned2 0 1 rfl rfl) (by rw [tkP, tkE, if_pos hk, if_pos hk]; rfl)⟩
  ·
    have hk : k ≤ l.length - p := by omega
    have e1 : (tkL l p k) = (l.drop p).take (p + k - p) := by rw [tkL, if_pos hk]; congr 1; omega
    have e2 : (tkL l p k).length = p + k - p := by rw [e1, List.length_take, List.length_drop]; omega
    refine T_skip ?_
    refine hK2 _ _ ?_
    refine T_seq fun K6 hK6 => ?_
    refine T_drawnL [(0, true), (1, true), (2, true), (3, true), (4, true), (5, true), (6, true), (7, true), (8, true), (9, true), (10, true), (11, true), (12, true), (13, true), (14, true), (15, true)] hmix (by kernel_rfl) fun w3 l3 => ?_
    have S3 := S1.like l3
    refine DL_y rfl (y_move rfl) rfl ?_
    refine DL_y rfl (y_nilp rfl) rfl ?_
    refine DL_y rfl (y_fieldA 0 Try.underlying179 rfl sz27 rfl rfl rfl) rfl ?_
    refine DL_y rfl (y_ldc Try.underlying27 rfl rfl (((S3.blk 0 rfl).cell _).trans (by rfl))) rfl ?_
    refine DL_y rfl (y_move rfl) rfl ?_
    refine DL_y rfl (y_nilp rfl) rfl ?_
    refine DL_y rfl (y_fieldA 1 Try.underlying179 rfl sz3 rfl rfl rfl) rfl ?_
    refine DL_y rfl (y_ldc Try.underlying3 rfl rfl (((S3.blk 0 rfl).cell _).trans (by rfl))) rfl ?_
    refine DL_y rfl (y_move rfl) rfl ?_
    refine DL_y rfl (y_nilp rfl) rfl ?_
    refine DL_y rfl (y_fieldA 1 Try.underlying179 rfl sz3 rfl rfl rfl) rfl ?_
    refine DL_y rfl (y_ldc Try.underlying3 rfl rfl (((S3.blk 0 rfl).cell _).trans (by rfl))) rfl ?_
    refine DL_y rfl (y_move rfl) rfl ?_
    refine DL_y rfl (y_add rfl rfl (i64w (by omega))) rfl ?_
    refine DL_y rfl (y_slice Try.underlying27 sz5 rfl rfl rfl inferInstance inferInstance (by omega) (by omega)) rfl ?_
    refine DL_y rfl (y_assign rfl) rfl ?_
    refine DL_nil ?_
    refine hK6 _ _ ?_
    refine T_seq fun K7 hK7 => ?_
    refine T_region ?_
    refine L_y (y_move rfl) rfl ?_
    refine L_y (y_nilp rfl) rfl ?_
    refine L_y (y_fieldA 1 Try.underlying179 rfl sz3 rfl rfl rfl) rfl ?_
    refine L_y (y_ldc Try.underlying3 rfl rfl (((S3.blk 0 rfl).cell _).trans (by rfl))) rfl ?_
    refine L_y (y_move rfl) rfl ?_
    refine L_y (y_add rfl rfl (i64w (by omega))) rfl ?_
    refine L_y (y_nilp rfl) rfl ?_
    refine L_y (y_fieldA 1 Try.underlying179 rfl sz3 rfl rfl rfl) rfl ?_
    refine L_o (o_st1 S3 0 rfl rfl rfl rfl sz3 (by simp; done) fun w4 S4 => ?_)
    refine L_nil ?_
    refine hK7 _ _ ?_
    refine T_seq fun K8 hK8 => ?_
    refine T_region ?_
    refine L_y (y_move rfl) rfl ?_
    refine L_y (y_assign rfl) rfl ?_
    refine L_nil ?_
    refine hK8 _ _ ?_
    refine T_ret ?_
    repeat (first | with_reducible refine up_then ?_ | with_reducible refine up_in ?_)
    refine ret1 rfl rfl ?_
    first | exact ⟨_, rfl, none, 0, (by rw [tkL, if_neg hk]; rfl), (by rw [tkL, if_neg hk]; exact Rs.nil _ _), Rdd.of (S4.turned2 0 1 rfl rfl) (by rw [tkP, tkE, if_neg hk, if_neg hk]; rfl)⟩ | exact ⟨_, rfl, cutA A c p 1, c - p, (by rw [e2]), (by rw [e2, e1]; exact (S4.row 1 rfl).cutb (by omega) (by omega)), Rdd.of (S4.turned2 0 1 rfl rfl) (by rw [tkP, tkE, if_pos hk, if_pos hk]; rfl)⟩


set_option maxRecDepth 100000 in
theorem rfail (g : Nat) (A : Option Addr) (n c : Nat) (l : List UInt8) (p q : Nat) (p0 q0 : Nat) (w0 : World) (hw : (rdr g A n c l p q).holds w0) (hp : p ≤ l.length) :
    Calls Try.prog 114 #[.pointer (some ⟨g, 0, none⟩), .int .i64 (p0 : Int), .int .i64 (q0 : Int)] w0 fun e w' => ∃ u, e = .returned u ∧ Turned w0 w' (rdr g A n c l p q) (rdr g A n c l p0 q0) := by
  refine enter1 (env := [(0, .pointer (some ⟨g, 0, none⟩)), (1, .int .i64 (p0 : Int)), (2, .int .i64 (q0 : Int))]) [.pointer (some ⟨g, 0, none⟩), .int .i64 (p0 : Int), .int .i64 (q0 : Int)] Try.func114 rfl Try.ntmps114 rfl rfl ?_
  have hnl := rdr_len hw; have hnc := ownsRow_cap hw.2; have S0 := St.borrow2 (blk g 179 #[.slice A n c, .int .i64 (p : Int), .int .i64 (q : Int)]) (row 5 1 A n c (bL l)) hw.1 hw.2 (rdr_lt hw) (rdr_apart hw)
  refine T_seq fun K1 hK1 => ?_
  refine T_region ?_
  refine L_y (y_move rfl) rfl ?_
  refine L_y (y_move rfl) rfl ?_
  refine L_y (y_nilp rfl) rfl ?_
  refine L_y (y_fieldA 1 Try.underlying179 rfl sz3 rfl rfl rfl) rfl ?_
  refine L_o (o_st1 S0 0 rfl rfl rfl rfl sz3 (by simp; done) fun w1 S1 => ?_)
  refine L_nil ?_
  refine hK1 _ _ ?_
  refine T_region ?_
  refine L_y (y_move rfl) rfl ?_
  refine L_y (y_move rfl) rfl ?_
  refine L_y (y_nilp rfl) rfl ?_
  refine L_y (y_fieldA 2 Try.underlying179 rfl sz28 rfl rfl rfl) rfl ?_
  refine L_o (o_st1 S1 0 rfl rfl rfl rfl sz28 (by simp; done) fun w2 S2 => ?_)
  refine L_nil ?_
  first | refine end0 (fn := Try.f114) rfl ?_ | (simp only [thenQ, inB, if_true]; refine end0 (fn := Try.f114) rfl ?_)
  exact ⟨_, rfl, Rdd.of (S2.turned2 0 1 rfl rfl) rfl⟩


set_option maxRecDepth 100000 in
theorem rnew (B : Option Addr) (m d : Nat) (l : List UInt8) (w0 : World) (hb : Rs w0 1 B m d (bL l)) (hm : m ≤ 70368744177664) :
    Calls Try.prog 71 #[.slice B m d] w0 fun e w' => ∃ u, e = .returned u ∧ Like w0 w' ∧ ∃ g A c, u = .pointer (some ⟨g, 0, none⟩) ∧ (rdr g A m c l 0 0).holds w' ∧ ∀ i, (rdr g A m c l 0 0).dom i → w0.heap.size ≤ i ∧ i < w'.heap.size := by
  refine enter1 (env := [(0, .slice B m d)]) [.slice B m d] Try.func71 rfl Try.ntmps71 rfl rfl ?_
  have S0 := St.start w0 noM
  refine T_seq fun K1 hK1 => ?_
  refine T_region ?_
  refine L_y (y_assign rfl) rfl ?_
  refine L_nil ?_
  refine hK1 _ _ ?_
  refine T_seq fun K2 hK2 => ?_
  refine T_region ?_
  refine L_y (y_move rfl) rfl ?_
  refine L_o (o_app0 te27 S0 rfl rfl (S0.rd hb) (bL_one _) rfl (by omega) (by omega) fun A1 c1 w1 S1 => ?_)
  refine L_y (y_build rfl (show _ = some #[Value.slice A1 m c1, Value.int .i64 0, Value.int .i64 0] by kernel_rfl)) rfl ?_
  refine L_o (o_box rfl S1 rfl fun b2 w2 hb2 S2 => ?_)
  refine L_y (y_assign rfl) rfl ?_
  refine L_nil ?_
  refine hK2 _ _ ?_
  refine T_ret ?_
  repeat (first | with_reducible refine up_then ?_ | with_reducible refine up_in ?_)
  refine ret1 rfl rfl ?_
  exact ⟨_, rfl, S2.like0, _, _, _, rfl, ⟨S2.get 1 rfl, S2.get 0 rfl⟩, fun i hi => by rcases hi with hi | hi; exact fresh_ S2 1 rfl i hi; exact fresh_ S2 0 rfl i hi⟩
end Go.Proofs.Ytgaklngnfecdaaa.Oct


/-
  The Reader: numbers.
-/
namespace Go.Proofs.Ytgaklngnfecdaaa.Oct
open Go.RowKit Zk Zx
set_option linter.unusedVariables false
set_option linter.unusedSimpArgs false

/-- A number of bytes, the highest first. -/
def be (l : List UInt8) : Nat := l.foldl (fun n c => n * 256 + c.toNat) 0
/-- What reading so many bytes gives, where it ends, and what is wrong then. -/
def rwL (l : List UInt8) (p q k : Nat) : List UInt8 := if q = 0 then tkL l p k else []
def rwP (l : List UInt8) (p q k : Nat) : Nat := if q = 0 then tkP l p k else p
def rwE (l : List UInt8) (p q k : Nat) : Nat := if q = 0 then tkE l p k q else q
theorem tkE_ok {l : List UInt8} {p k q : Nat} (h : k ≤ l.length - p) : tkE l p k q = q := by rw [tkE, if_pos h]
theorem be_snoc (l : List UInt8) (c : UInt8) : be (l ++ [c]) = be l * 256 + c.toNat := by simp [be, List.foldl_append]
theorem be_from : ∀ (l : List UInt8) (a : Nat), l.foldl (fun n c => n * 256 + c.toNat) a < (a + 1) * 256 ^ l.length
  | [], a => by simp
  | c :: l, a => by
    have h := be_from l (a * 256 + c.toNat)
    have h2 : (a * 256 + c.toNat + 1) * 256 ^ l.length ≤ (a + 1) * 256 * 256 ^ l.length := Nat.mul_le_mul_right _ (by have := c.toNat_lt; omega)
    rw [List.foldl_cons, List.length_cons, Nat.pow_succ, Nat.mul_comm (256 ^ l.length), ← Nat.mul_assoc]
    omega
theorem be_lt (l : List UInt8) : be l < 256 ^ l.length := by simpa [be] using be_from l 0
theorem be_take {l : List UInt8} {k : Nat} {c : UInt8} (h : l[k]? = some c) : be (l.take (k + 1)) = be (l.take k) * 256 + c.toNat := by
  rw [List.take_add_one, h]
  exact be_snoc _ _
theorem Rdd.turned {w w' : World} {g n c p q p' q' : Nat} {A : Option Addr} {l : List UInt8} (h : Turned w w' (rdr g A n c l p q) (rdr g A n c l p' q')) {p2 q2 : Nat} (hp : p' = p2) (hq : q' = q2) : Turned w w' (rdr g A n c l p q) (rdr g A n c l p2 q2) := by
  subst hp
  subst hq
  exact h


theorem tk_le (l : List UInt8) (p k : Nat) : (tkL l p k).length ≤ k := by unfold tkL; split <;> simp <;> omega
theorem be_bound {t : List UInt8} {k j : Nat} (hk : k < t.length) (ht : t.length ≤ j + 1) : be (t.take k) < 256 ^ j := by
  have h1 := be_lt (t.take k)
  rw [List.length_take, Nat.min_eq_left (by omega)] at h1
  exact Nat.lt_of_lt_of_le h1 (Nat.pow_le_pow_right (by decide) (by omega))
theorem or256 (a : Nat) (x : UInt8) : a * 256 ||| x.toNat = a * 256 + x.toNat := by
  rw [Nat.mul_comm, show (256 : Nat) = 2 ^ 8 from rfl, Nat.two_pow_add_eq_or_of_lt x.toNat_lt]
theorem or32 (a b : Nat) (ha : a < 4294967296) (hb : b < 4294967296) : bits .or .u32 (a : Int) (b : Int) = ((a ||| b : Nat) : Int) := by
  have h : a ||| b < 2 ^ 32 := Nat.or_lt_two_pow ha hb
  show IntKind.u32.wrap ((((BitVec.ofInt 32 (a : Int)) ||| (BitVec.ofInt 32 (b : Int)) : BitVec 32).toNat : Nat) : Int) = _
  rw [BitVec.ofInt_natCast, BitVec.ofInt_natCast, BitVec.toNat_or, BitVec.toNat_ofNat, BitVec.toNat_ofNat]
  rw [Nat.mod_eq_of_lt (by omega), Nat.mod_eq_of_lt (by omega), IntKind.wrap_u32]
  omega
theorem shl8_32 (a : Nat) (h : a < 256 ^ 3) : IntKind.u32.wrap ((a : Int) * 2 ^ (min (8 : Int).toNat IntKind.u32.bits)) = ((a * 256 : Nat) : Int) := by
  rw [show (2 : Int) ^ (min (8 : Int).toNat IntKind.u32.bits) = 256 by decide, IntKind.wrap_u32]
  omega
theorem orbe32 (a : Nat) (x : UInt8) (h : a < 256 ^ 3) : bits .or .u32 ((a * 256 : Nat) : Int) (x.toNat : Int) = ((a * 256 + x.toNat : Nat) : Int) := by
  rw [or32 _ _ (by omega) (by have := x.toNat_lt; omega), or256]
theorem bL_getX {l : List UInt8} {k : Nat} {x : UInt8} (h : l[k]? = some x) : (bL l)[k]? = some (Value.int .u8 (x.toNat : Int)) := bL_get l k x h


/-- What reading so many bytes gives. -/
def rnL (l : List UInt8) (p q : Nat) (m : Int) : List UInt8 := if m < 0 then [] else rwL l p q m.toNat
def rnP (l : List UInt8) (p q : Nat) (m : Int) : Nat := if m < 0 then p else rwP l p q m.toNat
def rnE (l : List UInt8) (p q : Nat) (m : Int) : Nat := if m < 0 then (if q ≠ 0 then q else 3) else rwE l p q m.toNat


theorem rdr_same {g n c p q p' q' : Nat} {A : Option Addr} {l : List UInt8} {i : Nat} (h : (rdr g A n c l p q).dom i) : (rdr g A n c l p' q').dom i := h


set_option maxRecDepth 100000 in
theorem rraw (g : Nat) (A : Option Addr) (n c : Nat) (l : List UInt8) (p q : Nat) (m : Int) (w0 : World) (hw : (rdr g A n c l p q).holds w0) (hp : p ≤ l.length) (hn62 : n ≤ 70368744177664) (hm : m ≤ 9223372036854775807) :
    Calls Try.prog 72 #[.pointer (some ⟨g, 0, none⟩), .int .i64 m] w0 fun e w' => ∃ u, e = .returned u ∧ Turned w0 w' (rdr g A n c l p q) (rdr g A n c l (rnP l p q m) (rnE l p q m)) ∧ ∃ B c2, u = .slice B (rnL l p q m).length c2 ∧ (row 5 1 B (rnL l p q m).length c2 (bL (rnL l p q m))).holds w' ∧ ∀ i, (row 5 1 B (rnL l p q m).length c2 (bL (rnL l p q m))).dom i → w0.heap.size ≤ i := by
  refine enter1 (env := [(0, .pointer (some ⟨g, 0, none⟩)), (1, .int .i64 m)]) [.pointer (some ⟨g, 0, none⟩), .int .i64 m] Try.func72 rfl Try.ntmps72 rfl rfl ?_
  have hnl := rdr_len hw; have hnc := ownsRow_cap hw.2; have S0 := St.borrow1 (rdr g A n c l p q) hw (rdr_lt hw)
  refine T_seq fun K1 hK1 => ?_
  refine T_region ?_
  refine L_y (y_assign rfl) rfl ?_
  refine L_nil ?_
  refine hK1 _ _ ?_
  refine T_seq fun K2 hK2 => ?_
  refine T_seq fun K3 hK3 => ?_
  refine T_region ?_
  refine L_y (y_move rfl) rfl ?_
  refine L_o (o_call Try.func113 rfl rfl (rdead g A n c l p _ w0 (S0.get 0 rfl) hp) rfl rfl ?_)
  rintro e1 w1 ⟨v1, rfl, l1, rfl⟩
  refine ⟨_, rfl, ?_⟩
  have S1 := S0.like l1
  refine L_nil ?_
  refine hK3 _ _ ?_
  refine T_cond rfl (fun h6 => ?_) (fun h6 => ?_)
  ·
    refine T_seq fun K4 hK4 => ?_
    refine T_region ?_
    refine L_y (y_assign rfl) rfl ?_
    refine L_nil ?_
    refine hK4 _ _ ?_
    refine T_ret ?_
    repeat (first | with_reducible refine up_then ?_ | with_reducible refine up_in ?_)
    refine ret1 rfl rfl ?_
    have e1 : rnL l p q m = [] := by unfold rnL rwL; split; rfl; rw [if_neg (by omega)]
    have e2 : rnP l p q m = p := by unfold rnP rwP; split; rfl; rw [if_neg (by omega)]
    have e3 : rnE l p q m = q := by unfold rnE rwE; split; rw [if_pos (by omega)]; rw [if_neg (by omega)]
    exact ⟨_, rfl, by rw [e2, e3]; exact S1.turned1 0 rfl, none, 0, by rw [e1]; rfl, by rw [e1]; exact ⟨by simp [bL], .inl ⟨rfl, rfl⟩⟩, fun i hi => by rw [e1] at hi; simp [row, Value.ownBlock] at hi⟩
  ·
    have hq : q = 0 := by omega
    subst hq
    refine T_skip ?_
    refine hK2 _ _ ?_
    refine T_seq fun K5 hK5 => ?_
    refine T_seq fun K6 hK6 => ?_
    refine T_region ?_
    refine L_y (y_move rfl) rfl ?_
    refine L_y (y_lss rfl rfl) rfl ?_
    refine L_nil ?_
    refine hK6 _ _ ?_
    refine T_cond rfl (fun h8 => ?_) (fun h8 => ?_)
    ·
      refine T_seq fun K7 hK7 => ?_
      refine T_region ?_
      refine L_y (y_move rfl) rfl ?_
      refine L_y (y_move rfl) rfl ?_
      refine L_y (y_nilp rfl) rfl ?_
      refine L_y (y_fieldA 1 Try.underlying179 rfl sz3 rfl rfl rfl) rfl ?_
      refine L_y (y_ldc Try.underlying3 rfl rfl (((S1.get 0 rfl).1.cell _).trans (by rfl))) rfl ?_
      refine L_o (o_call Try.func114 rfl rfl (rfail g A n c l _ _ p 3 w1 (S1.get 0 rfl) hp) rfl rfl ?_)
      rintro e2 w2 ⟨v2, rfl, T2⟩
      refine ⟨_, rfl, ?_⟩
      have S2 := S1.turn 0 rfl T2
      refine L_nil ?_
      refine hK7 _ _ ?_
      refine T_seq fun K8 hK8 => ?_
      refine T_region ?_
      refine L_y (y_assign rfl) rfl ?_
      refine L_nil ?_
      refine hK8 _ _ ?_
      refine T_ret ?_
      repeat (first | with_reducible refine up_then ?_ | with_reducible refine up_in ?_)
      refine ret1 rfl rfl ?_
      have e1 : rnL l p 0 m = [] := by rw [rnL, if_pos (by omega)]
      have e2 : rnP l p 0 m = p := by rw [rnP, if_pos (by omega)]
      have e3 : rnE l p 0 m = 3 := by rw [rnE, if_pos (by omega)]; rfl
      exact ⟨_, rfl, by rw [e2, e3]; exact S2.turned1 0 rfl, none, 0, by rw [e1]; rfl, by rw [e1]; exact ⟨by simp [bL], .inl ⟨rfl, rfl⟩⟩, fun i hi => by rw [e1] at hi; simp [row, Value.ownBlock] at hi⟩
    ·
      obtain ⟨k, rfl⟩ : ∃ k : Nat, m = (k : Int) := ⟨m.toNat, by omega⟩
      refine T_skip ?_
      refine hK5 _ _ ?_
      refine T_seq fun K9 hK9 => ?_
      refine T_region ?_
      refine L_y (y_move rfl) rfl ?_
      refine L_y (y_move rfl) rfl ?_
      refine L_o (o_call Try.func115 rfl rfl (rtake g A n c l p _ k w1 (S1.get 0 rfl) hp (by omega) (by omega)) rfl rfl ?_)
      rintro e3 w3 ⟨v3, rfl, B3, d3, rfl, RR, T3⟩
      refine ⟨_, rfl, ?_⟩
      have S3 := S1.turn 0 rfl T3
      have htl := tk_le l p k
      have htn : (tkL l p k).length ≤ l.length := by unfold tkL; split; simp; omega; simp
      refine L_o (o_app0 te27 S3 rfl rfl (RR) (bL_one _) rfl (by omega) (by omega) fun A4 c4 w4 S4 => ?_)
      refine L_y (y_assign rfl) rfl ?_
      refine L_nil ?_
      refine hK9 _ _ ?_
      refine T_ret ?_
      repeat (first | with_reducible refine up_then ?_ | with_reducible refine up_in ?_)
      refine ret1 rfl rfl ?_
      have e1 : rnL l p 0 (k : Int) = tkL l p k := by rw [rnL, if_neg (by omega), rwL, if_pos rfl, Int.toNat_natCast]
      have e2 : rnP l p 0 (k : Int) = tkP l p k := by rw [rnP, if_neg (by omega), rwP, if_pos rfl, Int.toNat_natCast]
      have e3 : rnE l p 0 (k : Int) = tkE l p k 0 := by rw [rnE, if_neg (by omega), rwE, if_pos rfl, Int.toNat_natCast]
      exact ⟨_, rfl, by rw [e2, e3]; exact S4.turned1 0 rfl, _, _, by rw [e1], by rw [e1]; exact S4.get 1 rfl, fun i hi => by rw [e1] at hi; have h9 := (S4.res _ (List.mem_of_getElem? (show _ = some _ from (rfl : [rdr g A n c l (tkP l p k) (tkE l p k 0), _][1]? = some _)))).2 i hi; rcases h9.2 with h9 | h9; exact h9; exact absurd hi (St.apart_ S4 0 1 rfl rfl rfl i (rdr_same h9))⟩


set_option maxRecDepth 100000 in
theorem ru32 (g : Nat) (A : Option Addr) (n c : Nat) (l : List UInt8) (p q : Nat) (w0 : World) (hw : (rdr g A n c l p q).holds w0) (hp : p ≤ l.length) (hn62 : n ≤ 4611686018427387904) :
    Calls Try.prog 73 #[.pointer (some ⟨g, 0, none⟩)] w0 fun e w' => ∃ u, e = .returned u ∧ u = .int .u32 (be (rwL l p q 4) : Int) ∧ Turned w0 w' (rdr g A n c l p q) (rdr g A n c l (rwP l p q 4) (rwE l p q 4)) := by
  refine enter1 (env := [(0, .pointer (some ⟨g, 0, none⟩))]) [.pointer (some ⟨g, 0, none⟩)] Try.func73 rfl Try.ntmps73 rfl rfl ?_
  have hnl := rdr_len hw; have hnc := ownsRow_cap hw.2; have S0 := St.borrow1 (rdr g A n c l p q) hw (rdr_lt hw)
  refine T_seq fun K1 hK1 => ?_
  refine T_region ?_
  refine L_y (y_assign rfl) rfl ?_
  refine L_nil ?_
  refine hK1 _ _ ?_
  refine T_seq fun K2 hK2 => ?_
  refine T_seq fun K3 hK3 => ?_
  refine T_region ?_
  refine L_y (y_move rfl) rfl ?_
  refine L_o (o_call Try.func113 rfl rfl (rdead g A n c l p _ w0 (S0.get 0 rfl) hp) rfl rfl ?_)
  rintro e1 w1 ⟨v1, rfl, l1, rfl⟩
  refine ⟨_, rfl, ?_⟩
  have S1 := S0.like l1
  refine L_nil ?_
  refine hK3 _ _ ?_
  refine T_cond rfl (fun h7 => ?_) (fun h7 => ?_)
  ·
    refine T_seq fun K4 hK4 => ?_
    refine T_region ?_
    refine L_y (y_assign rfl) rfl ?_
    refine L_nil ?_
    refine hK4 _ _ ?_
    refine T_ret ?_
    repeat (first | with_reducible refine up_then ?_ | with_reducible refine up_in ?_)
    refine ret1 rfl rfl ?_
    first | exact ⟨_, rfl, by rw [rwL, if_neg (by omega)]; rfl, Rdd.turned (S1.turned1 0 rfl) (by rw [rwP, if_neg (by omega)]) (by rw [rwE, if_neg (by omega)])⟩ | exact ⟨_, rfl, by rw [rwL, if_pos rfl, List.take_length], Rdd.turned (S1.turned1 0 rfl) rfl rfl⟩
  ·
    have hq : q = 0 := by omega
    subst hq
    refine T_skip ?_
    refine hK2 _ _ ?_
    refine T_seq fun K5 hK5 => ?_
    refine T_region ?_
    refine L_y (y_assign rfl) rfl ?_
    refine L_nil ?_
    refine hK5 _ _ ?_
    refine T_seq fun K6 hK6 => ?_
    refine T_seq fun K7 hK7 => ?_
    refine T_region ?_
    refine L_y (y_move rfl) rfl ?_
    refine L_o (o_call Try.func115 rfl rfl (rtake g A n c l p _ 4 w1 (S1.get 0 rfl) hp (by omega) hn62) rfl rfl ?_)
    rintro e2 w2 ⟨v2, rfl, B2, d2, rfl, R2, T2⟩
    refine ⟨_, rfl, ?_⟩
    have S2 := S1.turn 0 rfl T2
    have RR := R2
    refine L_y (y_len Try.underlying27 rfl) rfl ?_
    refine L_y (y_move rfl) rfl ?_
    refine L_nil ?_
    refine hK7 _ _ ?_
    refine T_block ?_
    refine T_loop1 [(9, _), (10, _)] (fun (k : Nat) => [(3, .int .u32 (be ((tkL l p 4).take k) : Int)), (11, .int .i64 (k : Int))]) (fun (k : Nat) => (tkL l p 4).length - k) (fun (k : Nat) (w : World) => (k ≤ (tkL l p 4).length ∧ Rs w 1 B2 (tkL l p 4).length d2 (bL (tkL l p 4))) ∧ St w0 (rdr g A n c l p 0).dom [rdr g A n c l (tkP l p 4) (tkE l p 4 0)] w) 0 (Sub.cons rfl (by first | rfl | exact congrArg (Value.int _) (by omega)) (Sub.cons rfl (by first | rfl | exact congrArg (Value.int _) (by omega)) (Sub.nil _))) (Sub.cons rfl rfl (Sub.cons rfl rfl (Sub.nil _))) ?_ ?_
    ·
      exact ⟨⟨Nat.zero_le _, RR⟩, S2⟩
    ·
      intro k w3 hrel
      obtain ⟨⟨hk, RX⟩, S3⟩ := hrel
      have htl := tk_le l p 4
      refine T_seq fun K8 hK8 => ?_
      refine T_region ?_
      refine L_y (y_lss rfl rfl) rfl ?_
      refine L_nil ?_
      refine hK8 _ _ ?_
      refine T_seq fun K9 hK9 => ?_
      refine T_cond rfl (fun h12 => ?_) (fun h12 => ?_)
      ·
        obtain ⟨x, hx⟩ : ∃ x, (tkL l p 4)[k]? = some x := ⟨_, List.getElem?_eq_getElem (by omega)⟩
        have hxl := x.toNat_lt
        have hbb := be_bound (k := k) (j := 3) (show k < (tkL l p 4).length by omega) htl
        refine T_skip ?_
        refine hK9 _ _ ?_
        refine T_seq fun K10 hK10 => ?_
        refine T_block ?_
        refine T_seq fun K11 hK11 => ?_
        refine T_region ?_
        refine L_y (y_idx Try.underlying27 sz5 rfl rfl (RX) inferInstance (by omega)) rfl ?_
        refine L_y (y_ldr Try.underlying5 rfl rfl RX (bL_getX hx)) rfl ?_
        refine L_y (y_assign rfl) rfl ?_
        refine L_nil ?_
        refine hK11 _ _ ?_
        refine T_region ?_
        refine L_y (y_move rfl) rfl ?_
        refine L_y (y_shl rfl rfl (by omega) (shl8_32 _ hbb)) rfl ?_
        refine L_y (y_move rfl) rfl ?_
        refine L_y (y_conv is5 Try.underlying60 rfl (u32w (by omega))) rfl ?_
        refine L_y (y_bits rfl rfl rfl (orbe32 _ _ hbb)) rfl ?_
        refine L_y (y_assign rfl) rfl ?_
        refine L_nil ?_
        refine hK10 _ _ ?_
        refine T_region ?_
        refine L_y (y_add rfl rfl (i64w (by omega))) rfl ?_
        refine L_y (y_move rfl) rfl ?_
        refine L_nil ?_
        refine ⟨k + 1, by omega, ⟨⟨by omega, RX⟩, S3⟩, ?_⟩
        exact (Sub.cons rfl (congrArg (Value.int _) (by rw [be_take hx])) (Sub.cons rfl (by first | rfl | exact congrArg (Value.int _) (by omega)) (Sub.cons rfl rfl (Sub.cons rfl rfl (Sub.nil _)))))
      ·
        have hke : k = (tkL l p 4).length := by omega
        subst hke
        refine T_exit ?_
        refine hK6 _ _ ?_
        refine T_seq fun K12 hK12 => ?_
        refine T_region ?_
        refine L_y (y_move rfl) rfl ?_
        refine L_y (y_assign rfl) rfl ?_
        refine L_nil ?_
        refine hK12 _ _ ?_
        refine T_ret ?_
        repeat (first | with_reducible refine up_then ?_ | with_reducible refine up_in ?_)
        refine ret1 rfl rfl ?_
        first | exact ⟨_, rfl, by rw [rwL, if_neg (by omega)]; rfl, Rdd.turned (S3.turned1 0 rfl) (by rw [rwP, if_neg (by omega)]) (by rw [rwE, if_neg (by omega)])⟩ | exact ⟨_, rfl, by rw [rwL, if_pos rfl, List.take_length], Rdd.turned (S3.turned1 0 rfl) rfl rfl⟩


end Go.Proofs.Ytgaklngnfecdaaa.Oct


/-
  Numbers by sevens: what is read is what is written, and the other way round.
-/
namespace Go.Proofs.Ytgaklngnfecdaaa.Oct
open Go.RowKit Zk Zx
set_option linter.unusedVariables false
end Go.Proofs.Ytgaklngnfecdaaa.Oct


/-
  The document: the Reader.
-/
namespace Go.Proofs.Ytgaklngnfecdaaa.Oct
open Go.RowKit Zk Zx
set_option linter.unusedVariables false
set_option linter.unusedSimpArgs false

/-- The document's Reader at block g. -/
def xr (g : Nat) (A : Option Addr) (n c p q : Nat) : Res := blk g 140 #[.slice A n c, .int .i64 (p : Int), .int .i64 (q : Int)]
theorem xr_lt {w : World} {g n c p q : Nat} {A : Option Addr} (h : (xr g A n c p q).holds w) : ∀ i, (xr g A n c p q).dom i → i < w.heap.size := fun i hi => by
  have hi' : i = g := hi
  subst hi'
  exact Blk.lt h
/-- A reading of old memory that the call does not write to. -/
theorem St.rdM {w0 w : World} {M : Nat → Prop} {rs : List Res} (S : St w0 M rs w) {size n c : Nat} {A : Option Addr} {xs : List Value} (h : Rs w0 size A n c xs) (hM : ∀ ad, 0 < n → A = some ad → ¬ M ad.block) : Rs w size A n c xs :=
  (fixed size A n c xs).stable w0 w (fun i ⟨ad, hn, hA, hi⟩ => by
    subst hi
    obtain ⟨ad', hA', hb, _⟩ := h.rd.2 hn
    rw [hA] at hA'
    cases hA'
    exact S.old _ hb (hM ad hn hA)) h
theorem rn_nat (l : List UInt8) (p q k : Nat) : rnL l p q (k : Int) = rwL l p q k ∧ rnP l p q (k : Int) = rwP l p q k ∧ rnE l p q (k : Int) = rwE l p q k :=
  ⟨by rw [rnL, if_neg (by omega), Int.toNat_natCast], by rw [rnP, if_neg (by omega), Int.toNat_natCast], by rw [rnE, if_neg (by omega), Int.toNat_natCast]⟩
theorem rn_ok {l : List UInt8} {p k : Nat} (h : k ≤ l.length - p) : rnL l p 0 (k : Int) = (l.drop p).take k ∧ rnP l p 0 (k : Int) = p + k ∧ rnE l p 0 (k : Int) = 0 := by
  obtain ⟨e1, e2, e3⟩ := rn_nat l p 0 k
  exact ⟨by rw [e1, rwL, if_pos rfl, tkL, if_pos h], by rw [e2, rwP, if_pos rfl, tkP, if_pos h], by rw [e3, rwE, if_pos rfl, tkE_ok h]⟩


end Go.Proofs.Ytgaklngnfecdaaa.Oct


/-
  An id of a reader.
-/
namespace Go.Proofs.Ytgaklngnfecdaaa.Idx
open Go.RowKit Zk Zx
open Oid (idf idf_len cmpL)
set_option linter.unusedVariables false
set_option linter.unusedSimpArgs false

open Oct (rdr rdr_apart)
theorem rdr_lt {w : World} {g n c p q : Nat} {A : Option Addr} {l : List UInt8} (h : (rdr g A n c l p q).holds w) : ∀ i, (rdr g A n c l p q).dom i → i < w.heap.size := fun i hi => by
  rcases hi with hi | hi
  · have hi' : i = g := hi
    subst hi'
    exact Blk.lt h.1
  · exact (World.ownsRow.lt h.2 i hi).2
def zI : Oid.Id := ⟨List.replicate 32 0, rfl⟩
theorem id_whole (x : Oid.Id) : ((idf x).toArray.toList.drop 0).take 32 = idf x ∧ (idf x).length = 32 := ⟨by rw [List.drop_zero]; exact List.take_of_length_le (by simp [idf_len]), idf_len x⟩
theorem cp_id {x z : Oid.Id} : ((idf x).toArray.toList.take 0 ++ bL z.l ++ (idf x).toArray.toList.drop (0 + (bL z.l).length)).toArray = (idf z).toArray := by
  rw [List.drop_of_length_le (by rw [List.toList_toArray, idf_len, length_bL, z.h]; omega), List.append_nil]
  rfl


set_option maxRecDepth 100000 in
theorem take (g : Nat) (A : Option Addr) (n c : Nat) (l : List UInt8) (p : Nat) (z : Oid.Id) (w0 : World) (hw : (rdr g A n c l p 0).holds w0) (hp : p + 32 ≤ l.length) (hn : n ≤ 70368744177664) (hz : z.l = (l.drop p).take 32) :
    Calls Try.prog 119 #[.pointer (some ⟨g, 0, none⟩)] w0 fun e w' => ∃ u, e = .returned u ∧ Turned w0 w' (rdr g A n c l p 0) (rdr g A n c l (p + 32) 0) ∧ u = .agg (idf z).toArray := by
  refine enter1 (env := [(0, .pointer (some ⟨g, 0, none⟩))]) [.pointer (some ⟨g, 0, none⟩)] Try.func119 rfl Try.ntmps119 rfl rfl ?_
  have S0 := St.borrow1 (rdr g A n c l p 0) hw (rdr_lt hw)
  refine T_seq fun K1 hK1 => ?_
  refine T_region ?_
  refine L_o (o_alloc zz23 S0 rfl fun b1 w1 hb1 S1 => ?_)
  refine L_nil ?_
  refine hK1 _ _ ?_
  refine T_seq fun K2 hK2 => ?_
  refine T_region ?_
  refine L_o (o_alloc zz23 S1 rfl fun b2 w2 hb2 S2 => ?_)
  have S3 : Zx.St w0 (rdr g A n c l p 0).dom [rdr g A n c l p 0, blk b1 23 (idf zI).toArray, blk b2 23 (idf zI).toArray] w2 := S2.cast (by kernel_rfl)
  refine L_nil ?_
  refine hK2 _ _ ?_
  refine T_seq fun K3 hK3 => ?_
  refine T_drawnX (fun w => Blk w b1 23 (idf zI).toArray) hmix (by kernel_rfl) (fun w l => ((S3.like l).blk 1 rfl)) fun w4 l4 => ?_
  have S4 := S3.like l4
  refine DX_y 0 (by kernel_rfl) rfl (y_aslice Try.underlying23 sz5 rfl) rfl ?_
  refine DX_y 1 (by kernel_rfl) rfl (y_move rfl) rfl ?_
  refine DX_o1 2 (by kernel_rfl) rfl ?_
  refine o_call Try.func72 rfl rfl (Oct.rraw g A n c l p 0 (32 : Nat) w4 (S4.get 0 rfl) (by omega) hn (by omega)) rfl rfl ?_
  rintro e5 w5 ⟨v5, rfl, T5, B7, d7, rfl, hr5, hd5⟩
  refine ⟨_, rfl, ?_⟩
  have S5 := S4.turn 0 rfl T5
  obtain ⟨e1, e2, e3⟩ := Oct.rn_ok (l := l) (p := p) (k := 32) (by omega)
  rw [e1, ← hz] at hr5 hd5
  have S6 := St.newT S4 0 rfl T5 (fun i hi => hi) hr5 (fun i hi => ⟨hd5 i hi, (World.ownsRow.lt hr5 i hi).2⟩)
  rw [e2, e3] at S6
  rw [e1, ← hz]
  refine ⟨(S6.blk 1 rfl), ?_⟩
  refine DX_o1 3 (by kernel_rfl) rfl ?_
  refine o_copyB (news := bL z.l) S6 2 rfl Try.underlying27 sz5 rfl rfl rfl (S6.row 3 rfl) (by rw [List.take_of_length_le (by rw [length_bL, z.h]; omega)]) (by rw [List.size_toArray, idf_len, length_bL, z.h]; omega) (bL_one _) rfl fun w7 S7 => ?_
  refine ⟨(S7.blk 1 rfl), ?_⟩
  have S90 := S7.blkc 2 rfl cp_id
  refine DX_nil (by kernel_rfl) ?_
  refine hK3 _ _ ?_
  refine T_seq fun K4 hK4 => ?_
  refine T_region ?_
  refine L_y (y_ldW Try.underlying23 rfl sz23 rfl (S90.blk 2 rfl) (id_whole z)) rfl ?_
  refine L_o (o_stW S90 1 rfl rfl rfl (by rw [List.size_toArray, idf_len]; exact sz23) (by rw [List.size_toArray, List.size_toArray, idf_len, idf_len]) (fun u hu => bL_one _ u (by rw [List.toList_toArray] at hu; exact hu)) fun w8 S8 => ?_)
  refine L_nil ?_
  refine hK4 _ _ ?_
  refine T_ret ?_
  repeat (first | with_reducible refine up_then ?_ | with_reducible refine up_in ?_)
  refine retc rfl rfl (S8.blk 1 rfl) Try.underlying23 rfl (by rw [List.size_toArray, idf_len]; exact sz23) ?_
  exact ⟨_, rfl, S8.turned1 0 rfl, rfl⟩
end Go.Proofs.Ytgaklngnfecdaaa.Idx


/-
  An index asked.
-/
namespace Go.Proofs.Ytgaklngnfecdaaa.Idx
open Go.RowKit Zk Zx
open Oid (idf idf_len cmpL)
set_option linter.unusedVariables false
set_option linter.unusedSimpArgs false

/-- An index as it is kept. -/
def idxf (A : Option Addr) (n c : Nat) (l : List Row) (of : Oid.Id) : List Value := [.slice A n c] ++ fanF l ++ idf of
theorem idx_row (A : Option Addr) (n c : Nat) (l : List Row) (of : Oid.Id) : (idxf A n c l of).toArray[0]? = some (.slice A n c) := rfl
theorem idx_fan (A : Option Addr) (n c : Nat) (l : List Row) (of : Oid.Id) {k : Nat} (h : k < 256) : (idxf A n c l of).toArray[1 + k]? = some (.int .i64 (cl l (k + 1) : Int)) := by
  have h2 := fan_cell l k h
  rw [List.getElem?_toArray] at h2 ⊢
  unfold idxf
  rw [List.getElem?_append_left (by simp [fanF_len]; omega), List.getElem?_append_right (by simp)]
  simpa using h2
theorem idx_of (A : Option Addr) (n c : Nat) (l : List Row) (of : Oid.Id) : ((idxf A n c l of).toArray.toList.drop 257).take 32 = idf of ∧ (idf of).length = 32 := by
  refine ⟨?_, idf_len of⟩
  unfold idxf
  rw [List.toList_toArray, List.drop_append_of_le_length (by simp [fanF_len]), List.drop_of_length_le (by simp [fanF_len]), List.nil_append]
  exact List.take_of_length_le (by rw [idf_len]; omega)
theorem like_same {w w' : World} {g t : Nat} {cs : Array Value} (h : Blk w g t cs) (T : Turned w w' (blk g t cs) (blk g t cs)) : Like w w' := ⟨T.os, T.tape, T.output, T.size, fun k hk => by
  by_cases e : k = g
  · subst e; exact T.holds.trans h.symm
  · exact T.old k hk (fun hh => e hh)⟩
theorem blk_ilt {w : World} {g t : Nat} {cs : Array Value} (h : Blk w g t cs) : ∀ i, (blk g t cs).dom i → i < w.heap.size := fun i hi => by
  have hi' : i = g := hi
  subst hi'
  exact h.lt
/-- The row at a place, a zero row elsewhere. -/
def zR : Row := ⟨⟨List.replicate 32 0, rfl⟩, 0, 0⟩
def atR (l : List Row) (k : Int) : Row := if 0 ≤ k ∧ k < l.length then l.getD k.toNat zR else zR
theorem atR_no {l : List Row} {k : Int} (h : k < 0 ∨ (l.length : Int) ≤ k) : atR l k = zR := if_neg (by omega)
theorem atR_yes {l : List Row} {k : Int} {x : Row} (h0 : 0 ≤ k) (hx : l[k.toNat]? = some x) : atR l k = x := by
  have h1 := (List.getElem?_eq_some_iff.1 hx).1
  unfold atR
  rw [if_pos (by omega), List.getD_eq_getElem?_getD, hx]
  rfl


set_option maxRecDepth 100000 in
theorem place (x : Row) (w0 : World)  :
    Calls Try.prog 82 #[.agg (rowf x).toArray] w0 fun e w' => ∃ u, e = .returned u ∧ Like w0 w' ∧ u = .agg (plf x).toArray := by
  refine enter1 (env := [(0, .agg (rowf x).toArray)]) [.agg (rowf x).toArray] Try.func82 rfl Try.ntmps82 rfl rfl ?_
  have S0 := St.start w0 noM
  refine T_seq fun K1 hK1 => ?_
  refine T_region ?_
  refine L_o (o_box rfl S0 rfl fun b1 w1 hb1 S1 => ?_)
  refine L_o (o_alloc zz62 S1 rfl fun b2 w2 hb2 S2 => ?_)
  refine L_nil ?_
  refine hK1 _ _ ?_
  refine T_seq fun K2 hK2 => ?_
  refine T_region ?_
  refine L_y (y_fieldA 0 Try.underlying119 rfl sz23 rfl rfl rfl) rfl ?_
  refine L_y (y_ldW Try.underlying23 rfl sz23 rfl (S2.blk 0 rfl) (row_id x)) rfl ?_
  refine L_y (y_fieldA 33 Try.underlying119 rfl sz3 rfl rfl rfl) rfl ?_
  refine L_y (y_ldc Try.underlying3 rfl rfl (((S2.blk 0 rfl).cell _).trans (row33 x))) rfl ?_
  refine L_y (y_fieldA 32 Try.underlying119 rfl sz60 rfl rfl rfl) rfl ?_
  refine L_y (y_ldc Try.underlying60 rfl rfl (((S2.blk 0 rfl).cell _).trans (row32 x))) rfl ?_
  refine L_y (y_build rfl (built_pl x)) rfl ?_
  refine L_o (o_stW S2 1 rfl rfl rfl (by rw [plf_sz]; exact sz62) (by first | (rw [plf_sz, plf_sz]; done) | (rw [plf_sz]; rfl)) (fun u hu => plf_one _ u (by rw [List.toList_toArray] at hu; exact hu)) fun w3 S3 => ?_)
  refine L_nil ?_
  refine hK2 _ _ ?_
  refine T_ret ?_
  repeat (first | with_reducible refine up_then ?_ | with_reducible refine up_in ?_)
  refine retc rfl rfl (S3.blk 1 rfl) Try.underlying62 rfl (by rw [plf_sz]; exact sz62) ?_
  exact ⟨_, rfl, S3.like0, rfl⟩


set_option maxRecDepth 100000 in
theorem lenX (g : Nat) (A : Option Addr) (n c : Nat) (l : List Row) (of : Oid.Id) (w0 : World) (hx : Blk w0 g 97 (idxf A n c l of).toArray) (hl : Rs w0 34 A n c (l.flatMap rowf)) :
    Calls Try.prog 31 #[.pointer (some ⟨g, 0, none⟩)] w0 fun e w' => ∃ u, e = .returned u ∧ Like w0 w' ∧ u = .int .i64 (l.length : Int) := by
  refine enter1 (env := [(0, .pointer (some ⟨g, 0, none⟩))]) [.pointer (some ⟨g, 0, none⟩)] Try.func31 rfl Try.ntmps31 rfl rfl ?_
  have hn := rows_len hl; have hcap := hl.cap; have hmax := hl.max
  have S0 := St.borrow1 (blk g 97 (idxf A n c l of).toArray) hx (blk_ilt hx)
  refine T_seq fun K1 hK1 => ?_
  refine T_region ?_
  refine L_y (y_assign rfl) rfl ?_
  refine L_nil ?_
  refine hK1 _ _ ?_
  refine T_seq fun K2 hK2 => ?_
  refine T_seq fun K3 hK3 => ?_
  refine T_region ?_
  refine L_y (y_move rfl) rfl ?_
  refine L_y (y_peqn Try.underlying49 rfl) rfl ?_
  refine L_nil ?_
  refine hK3 _ _ ?_
  refine T_false rfl ?_
  refine T_skip ?_
  refine hK2 _ _ ?_
  refine T_seq fun K4 hK4 => ?_
  refine T_region ?_
  refine L_y (y_move rfl) rfl ?_
  refine L_y (y_nilp rfl) rfl ?_
  refine L_y (y_fieldA 0 Try.underlying97 rfl sz94 rfl rfl rfl) rfl ?_
  refine L_y (y_ldc Try.underlying94 rfl rfl (((S0.blk 0 rfl).cell _).trans (idx_row _ _ _ _ _))) rfl ?_
  refine L_y (y_len Try.underlying94 rfl) rfl ?_
  refine L_y (y_assign rfl) rfl ?_
  refine L_nil ?_
  refine hK4 _ _ ?_
  refine T_ret ?_
  repeat (first | with_reducible refine up_then ?_ | with_reducible refine up_in ?_)
  refine ret1 rfl rfl ?_
  exact ⟨_, rfl, like_same hx (S0.turned1 0 rfl), by rw [hn]⟩


set_option maxRecDepth 100000 in
theorem ofX (g : Nat) (A : Option Addr) (n c : Nat) (l : List Row) (of : Oid.Id) (w0 : World) (hx : Blk w0 g 97 (idxf A n c l of).toArray) (hl : Rs w0 34 A n c (l.flatMap rowf)) :
    Calls Try.prog 32 #[.pointer (some ⟨g, 0, none⟩)] w0 fun e w' => ∃ u, e = .returned u ∧ Like w0 w' ∧ u = .agg (idf of).toArray := by
  refine enter1 (env := [(0, .pointer (some ⟨g, 0, none⟩))]) [.pointer (some ⟨g, 0, none⟩)] Try.func32 rfl Try.ntmps32 rfl rfl ?_
  have hn := rows_len hl; have hcap := hl.cap; have hmax := hl.max
  have S0 := St.borrow1 (blk g 97 (idxf A n c l of).toArray) hx (blk_ilt hx)
  refine T_seq fun K1 hK1 => ?_
  refine T_region ?_
  refine L_o (o_alloc zz23 S0 rfl fun b1 w1 hb1 S1 => ?_)
  refine L_nil ?_
  refine hK1 _ _ ?_
  refine T_seq fun K2 hK2 => ?_
  refine T_seq fun K3 hK3 => ?_
  refine T_region ?_
  refine L_y (y_move rfl) rfl ?_
  refine L_y (y_peqn Try.underlying49 rfl) rfl ?_
  refine L_nil ?_
  refine hK3 _ _ ?_
  refine T_false rfl ?_
  refine T_skip ?_
  refine hK2 _ _ ?_
  refine T_seq fun K4 hK4 => ?_
  refine T_region ?_
  refine L_y (y_move rfl) rfl ?_
  refine L_y (y_nilp rfl) rfl ?_
  refine L_y (y_fieldA 257 Try.underlying97 rfl sz23 rfl rfl rfl) rfl ?_
  refine L_y (y_ldW Try.underlying23 rfl sz23 rfl (S1.blk 0 rfl) (idx_of _ _ _ _ _)) rfl ?_
  refine L_o (o_stW S1 1 rfl rfl rfl (by rw [List.size_toArray, idf_len]; exact sz23) (by first | (rw [List.size_toArray, List.size_toArray, idf_len, idf_len]; done) | (rw [List.size_toArray, idf_len]; rfl)) (fun u hu => bL_one _ u (by rw [List.toList_toArray] at hu; exact hu)) fun w2 S2 => ?_)
  refine L_nil ?_
  refine hK4 _ _ ?_
  refine T_ret ?_
  repeat (first | with_reducible refine up_then ?_ | with_reducible refine up_in ?_)
  refine retc rfl rfl (S2.blk 1 rfl) Try.underlying23 rfl (by rw [List.size_toArray, idf_len]; exact sz23) ?_
  exact ⟨_, rfl, like_same hx (S2.turned1 0 rfl), rfl⟩


set_option maxRecDepth 100000 in
theorem atX (g : Nat) (A : Option Addr) (n c : Nat) (l : List Row) (of : Oid.Id) (k : Int) (w0 : World) (hx : Blk w0 g 97 (idxf A n c l of).toArray) (hl : Rs w0 34 A n c (l.flatMap rowf)) (hne : ∀ ad, 0 < n → A = some ad → ad.block ≠ g) :
    Calls Try.prog 34 #[.pointer (some ⟨g, 0, none⟩), .int .i64 k] w0 fun e w' => ∃ u, e = .returned u ∧ Like w0 w' ∧ u = .agg (plf (atR l k)).toArray := by
  refine enter1 (env := [(0, .pointer (some ⟨g, 0, none⟩)), (1, .int .i64 k)]) [.pointer (some ⟨g, 0, none⟩), .int .i64 k] Try.func34 rfl Try.ntmps34 rfl rfl ?_
  have hn := rows_len hl; have hcap := hl.cap; have hmax := hl.max
  have S0 := St.borrow1 (blk g 97 (idxf A n c l of).toArray) hx (blk_ilt hx)
  refine T_seq fun K1 hK1 => ?_
  refine T_region ?_
  refine L_o (o_alloc zz62 S0 rfl fun b1 w1 hb1 S1 => ?_)
  refine L_nil ?_
  refine hK1 _ _ ?_
  refine T_seq fun K2 hK2 => ?_
  refine T_seq fun K3 hK3 => ?_
  refine T_region ?_
  refine L_y (y_move rfl) rfl ?_
  refine L_y (y_lss rfl rfl) rfl ?_
  refine L_y (y_move rfl) rfl ?_
  refine L_split 7 rfl (fun h7 => ?_) (fun h7 => ?_)
  ·
    refine L_gno rfl rfl rfl ?_
    refine L_gno rfl rfl rfl ?_
    refine L_gno rfl rfl rfl ?_
    refine L_gno rfl rfl rfl ?_
    refine L_y ((by first | exact y_pickT rfl rfl | exact y_pickF rfl rfl)) rfl ?_
    refine L_nil ?_
    refine hK3 _ _ ?_
    refine T_true rfl ?_
    refine T_seq fun K4 hK4 => ?_
    refine T_region ?_
    refine L_y (y_build rfl (show _ = some (plf zR).toArray by kernel_rfl)) rfl ?_
    refine L_o (o_stW S1 1 rfl rfl rfl (by rw [plf_sz]; exact sz62) (by first | (rw [plf_sz, plf_sz]; done) | (rw [plf_sz]; rfl)) (fun u hu => plf_one _ u (by rw [List.toList_toArray] at hu; exact hu)) fun w3 S3 => ?_)
    refine L_nil ?_
    refine hK4 _ _ ?_
    refine T_ret ?_
    repeat (first | with_reducible refine up_then ?_ | with_reducible refine up_in ?_)
    refine retc rfl rfl (S3.blk 1 rfl) Try.underlying62 rfl (by rw [plf_sz]; exact sz62) ?_
    exact ⟨_, rfl, like_same hx (S3.turned1 0 rfl), by rw [atR_no (by omega)]⟩
  ·
    refine L_gyes rfl rfl ?_
    refine L_y (y_move rfl) rfl ?_
    refine L_gyes rfl rfl ?_
    refine L_y (y_move rfl) rfl ?_
    refine L_gyes rfl rfl ?_
    refine L_o (o_call Try.func31 rfl rfl (lenX g A n c l of w1 (S1.blk 0 rfl) (S1.rdM hl hne)) rfl rfl ?_)
    rintro e4 w4 ⟨v4, rfl, l4, rfl⟩
    refine ⟨_, rfl, ?_⟩
    have S4 := S1.like l4
    refine L_gyes rfl rfl ?_
    refine L_y (y_geq rfl rfl) rfl ?_
    refine L_y ((by first | exact y_pickT rfl rfl | exact y_pickF rfl rfl)) rfl ?_
    refine L_nil ?_
    refine hK3 _ _ ?_
    refine T_cond rfl (fun h12 => ?_) (fun h12 => ?_)
    ·
      refine T_seq fun K5 hK5 => ?_
      refine T_region ?_
      refine L_y (y_build rfl (show _ = some (plf zR).toArray by kernel_rfl)) rfl ?_
      refine L_o (o_stW S4 1 rfl rfl rfl (by rw [plf_sz]; exact sz62) (by first | (rw [plf_sz, plf_sz]; done) | (rw [plf_sz]; rfl)) (fun u hu => plf_one _ u (by rw [List.toList_toArray] at hu; exact hu)) fun w5 S5 => ?_)
      refine L_nil ?_
      refine hK5 _ _ ?_
      refine T_ret ?_
      repeat (first | with_reducible refine up_then ?_ | with_reducible refine up_in ?_)
      refine retc rfl rfl (S5.blk 1 rfl) Try.underlying62 rfl (by rw [plf_sz]; exact sz62) ?_
      exact ⟨_, rfl, like_same hx (S5.turned1 0 rfl), by rw [atR_no (by omega)]⟩
    ·
      refine T_skip ?_
      refine hK2 _ _ ?_
      refine T_seq fun K6 hK6 => ?_
      obtain ⟨x, hx9⟩ : ∃ x, l[k.toNat]? = some x := ⟨_, List.getElem?_eq_getElem (by omega)⟩
      refine T_region ?_
      refine L_y (y_move rfl) rfl ?_
      refine L_y (y_nilp rfl) rfl ?_
      refine L_y (y_fieldA 0 Try.underlying97 rfl sz94 rfl rfl rfl) rfl ?_
      refine L_y (y_ldc Try.underlying94 rfl rfl (((S4.blk 0 rfl).cell _).trans (idx_row _ _ _ _ _))) rfl ?_
      refine L_y (y_move rfl) rfl ?_
      refine L_y (y_idx Try.underlying94 sz119 rfl rfl (S4.rdM hl hne) (Nt.mk (by omega) : Nt _ (k.toNat)) (by omega)) rfl ?_
      refine L_y (y_ldp (f := rowf) rowf_len Try.underlying119 rfl sz119 rfl (S4.rdM hl hne) (by omega) hx9) rfl ?_
      refine L_o (o_call Try.func82 rfl rfl (place x w4) rfl rfl ?_)
      rintro e6 w6 ⟨v6, rfl, l6, rfl⟩
      refine ⟨_, rfl, ?_⟩
      have S6 := S4.like l6
      refine L_o (o_stW S6 1 rfl rfl rfl (by rw [plf_sz]; exact sz62) (by first | (rw [plf_sz, plf_sz]; done) | (rw [plf_sz]; rfl)) (fun u hu => plf_one _ u (by rw [List.toList_toArray] at hu; exact hu)) fun w7 S7 => ?_)
      refine L_nil ?_
      refine hK6 _ _ ?_
      refine T_ret ?_
      repeat (first | with_reducible refine up_then ?_ | with_reducible refine up_in ?_)
      refine retc rfl rfl (S7.blk 1 rfl) Try.underlying62 rfl (by rw [plf_sz]; exact sz62) ?_
      exact ⟨_, rfl, like_same hx (S7.turned1 0 rfl), by rw [atR_yes (by omega) hx9]⟩
end Go.Proofs.Ytgaklngnfecdaaa.Idx


/-
  Search by halves.
-/
namespace Go.Proofs.Ytgaklngnfecdaaa.Idx
open Go.RowKit Zk Zx
open Oid (idf idf_len cmpL)
set_option linter.unusedVariables false
set_option linter.unusedSimpArgs false

/-- Where an id stands among rows, or would. -/
def At (l : List Row) (z : Oid.Id) (p : Nat) : Prop := p ≤ l.length ∧ (∀ i x, i < p → l[i]? = some x → Oid.lt x.id z = true) ∧ ∀ i x, p ≤ i → l[i]? = some x → Oid.lt x.id z = false
theorem lt_of_cmp {a b : Oid.Id} (h : cmpL a.l b.l < 0) : Oid.lt a b = true := (Oid.cmp_lt a b).1 h
theorem ge_of_cmp {a b : Oid.Id} (h : ¬ cmpL a.l b.l < 0) : Oid.lt a b = false := by
  cases e : Oid.lt a b with
  | false => rfl
  | true => exact absurd ((Oid.cmp_lt a b).2 e) h
theorem StR.at {l : List Row} (hs : StR l) {i j : Nat} {x y : Row} (hx : l[i]? = some x) (hy : l[j]? = some y) (h : i < j) : Oid.lt x.id y.id = true := by
  obtain ⟨h1, h2⟩ := List.getElem?_eq_some_iff.1 hx
  obtain ⟨h3, h4⟩ := List.getElem?_eq_some_iff.1 hy
  have := List.pairwise_iff_getElem.1 hs i j h1 h3 h
  rwa [h2, h4] at this
theorem wk_lt {l : List Row} (hs : StR l) {h i : Nat} {p x : Row} {z : Oid.Id} (hp : l[h]? = some p) (hi : i ≤ h) (hx : l[i]? = some x) (hl : Oid.lt p.id z = true) : Oid.lt x.id z = true := by
  rcases Nat.lt_or_eq_of_le hi with q | q
  · exact Oid.lt_trans _ _ _ (hs.at hx hp q) hl
  · subst q; rw [hp] at hx; cases hx; exact hl
theorem wk_ge {l : List Row} (hs : StR l) {h i : Nat} {p x : Row} {z : Oid.Id} (hp : l[h]? = some p) (hi : h ≤ i) (hx : l[i]? = some x) (hl : Oid.lt p.id z = false) : Oid.lt x.id z = false := by
  rcases Nat.lt_or_eq_of_le hi with q | q
  · cases e : Oid.lt x.id z with
    | false => rfl
    | true => rw [Oid.lt_trans _ _ _ (hs.at hp hx q) e] at hl; cases hl
  · subst q; rw [hp] at hx; cases hx; exact hl
theorem shr1 (a b : Nat) : Int.fdiv ((a : Int) + (b : Int)) (2 ^ (min (Int.toNat 1) IntKind.u64.bits)) = (((a + b) / 2 : Nat) : Int) := by
  rw [show min (Int.toNat 1) IntKind.u64.bits = 1 from rfl, Int.fdiv_eq_ediv_of_nonneg _ (by decide)]
  omega
theorem cmp_zero {a b : Oid.Id} : cmpL a.l b.l = 0 ↔ a = b := by
  constructor
  · intro h
    by_cases e : a = b
    · exact e
    · exfalso
      cases h1 : Oid.lt a b with
      | true => have := (Oid.cmp_lt a b).2 h1; omega
      | false =>
        have h2 := Oid.lt_total a b h1 e
        unfold cmpL at h
        unfold Oid.lt at h1 h2
        rw [h1, h2] at h
        simp at h
  · intro h
    subst h
    unfold cmpL
    rw [Oid.belowL_irrefl]
    rfl


set_option maxRecDepth 100000 in
theorem bsearch (A : Option Addr) (n c : Nat) (l : List Row) (y : Row) (w0 : World) (hl : Rs w0 34 A n c (l.flatMap rowf)) (hs : StR l) (h9 : l.length ≤ 100000) :
    Calls Try.prog 81 #[.slice A n c, .agg (rowf y).toArray, .func (.func 64) #[] #[]] w0 fun e w' => ∃ u, e = .returned u ∧ Like w0 w' ∧ ∃ p, At l y.id p ∧ u = .tuple #[.int .i64 (p : Int), .bool (decide ((l[p]?).map Row.id = some y.id))] := by
  refine enter1 (env := [(0, .slice A n c), (1, .agg (rowf y).toArray), (2, .func (.func 64) #[] #[])]) [.slice A n c, .agg (rowf y).toArray, .func (.func 64) #[] #[]] Try.func81 rfl Try.ntmps81 rfl rfl ?_
  have hn := rows_len hl; have hcap := hl.cap; have hmax := hl.max
  have S0 := St.start w0 noM
  refine T_seq fun K1 hK1 => ?_
  refine T_region ?_
  refine L_o (o_box rfl S0 rfl fun b1 w1 hb1 S1 => ?_)
  refine L_y (y_assign rfl) rfl ?_
  refine L_y (y_assign rfl) rfl ?_
  refine L_nil ?_
  refine hK1 _ _ ?_
  refine T_seq fun K2 hK2 => ?_
  refine T_region ?_
  refine L_y (y_move rfl) rfl ?_
  refine L_y (y_len Try.underlying94 rfl) rfl ?_
  refine L_y (y_assign rfl) rfl ?_
  refine L_nil ?_
  refine hK2 _ _ ?_
  refine T_seq fun K3 hK3 => ?_
  refine T_region ?_
  refine L_y (y_move rfl) rfl ?_
  refine L_y (y_assign rfl) rfl ?_
  refine L_y (y_assign rfl) rfl ?_
  refine L_nil ?_
  refine hK3 _ _ ?_
  refine T_seq fun K4 hK4 => ?_
  refine T_block ?_
  refine T_loop2 [(0, _), (2, _), (4, _), (8, _)] (fun (a : Nat) (b : Nat) => [(9, .int .i64 (a : Int)), (10, .int .i64 (b : Int))]) (fun (a : Nat) (b : Nat) => b - a) (fun (a : Nat) (b : Nat) (w : World) => (a ≤ b ∧ b ≤ l.length ∧ (∀ i x, i < a → l[i]? = some x → Oid.lt x.id y.id = true) ∧ ∀ i x, b ≤ i → l[i]? = some x → Oid.lt x.id y.id = false) ∧ Zx.St w0 noM [blk b1 119 (rowf y).toArray] w) 0 l.length (Sub.cons rfl (by first | rfl | exact congrArg (Value.int _) (by omega)) (Sub.cons rfl (by first | rfl | exact congrArg (Value.int _) (by omega)) (Sub.nil _))) (Sub.cons rfl rfl (Sub.cons rfl rfl (Sub.cons rfl rfl (Sub.cons rfl rfl (Sub.nil _))))) ?_ ?_
  ·
    exact ⟨⟨Nat.zero_le _, Nat.le_refl _, fun i x hi => by omega, fun i x hi hx => by have := (List.getElem?_eq_some_iff.1 hx).1; omega⟩, S1⟩
  ·
    intro a b w2 hrel
    obtain ⟨⟨hab, hbn, hlo, hhi⟩, S2⟩ := hrel
    refine T_seq fun K5 hK5 => ?_
    refine T_seq fun K6 hK6 => ?_
    refine T_region ?_
    refine L_y (y_move rfl) rfl ?_
    refine L_y (y_move rfl) rfl ?_
    refine L_y (y_lss rfl rfl) rfl ?_
    refine L_nil ?_
    refine hK6 _ _ ?_
    refine T_cond rfl (fun h17 => ?_) (fun h17 => ?_)
    ·
      refine T_skip ?_
      refine hK5 _ _ ?_
      refine T_block ?_
      refine T_seq fun K7 hK7 => ?_
      obtain ⟨h, hh⟩ : ∃ h, h = (a + b) / 2 := ⟨_, rfl⟩
      obtain ⟨p, hp⟩ : ∃ x, l[h]? = some x := ⟨_, List.getElem?_eq_getElem (by omega)⟩
      refine T_region ?_
      refine L_y (y_move rfl) rfl ?_
      refine L_y (y_move rfl) rfl ?_
      refine L_y (y_add rfl rfl (i64w (by omega))) rfl ?_
      refine L_y (y_conv is3 Try.underlying162 rfl (u64w (by omega))) rfl ?_
      refine L_y (y_shr rfl rfl (by decide) (shr1 a b)) rfl ?_
      refine L_y (y_conv is162 Try.underlying3 rfl (i64w (by omega))) rfl ?_
      refine L_y (y_assign rfl) rfl ?_
      refine L_nil ?_
      refine hK7 _ _ ?_
      refine T_seq fun K8 hK8 => ?_
      refine T_tail 6 hmix (by kernel_rfl) fun w3 l3 K9 hK9 => ?_
      have S3 := S2.like l3
      refine HL_y (y_move rfl) rfl ?_
      refine HL_y (y_move rfl) rfl ?_
      refine HL_y (y_move rfl) rfl ?_
      refine HL_y (y_idx Try.underlying94 sz119 rfl rfl (by first | exact S3.rd hl) (Nt.mk (by omega) : Nt _ (h)) (by omega)) rfl ?_
      refine HL_y (y_ldp (f := rowf) rowf_len Try.underlying119 rfl sz119 rfl (S3.rd hl) (by omega) hp) rfl ?_
      refine HL_y (y_ldW Try.underlying119 rfl sz119 rfl (S3.blk 0 rfl) (row_whole y)) rfl ?_
      refine HL_nil ?_
      refine hK9 _ ?_
      refine L_o (o_callv rfl Try.func64 rfl rfl (cmpR p y w3) rfl rfl (fun d' hd => by cases hd <;> rfl) ?_)
      rintro e4 w4 ⟨v4, rfl, l4, rfl⟩
      refine ⟨_, rfl, ?_⟩
      have S4 := S3.like l4
      refine L_y (y_lss rfl rfl) rfl ?_
      refine L_nil ?_
      refine hK8 _ _ ?_
      refine T_cond rfl (fun h31 => ?_) (fun h31 => ?_)
      ·
        refine T_region ?_
        refine L_y (y_move rfl) rfl ?_
        refine L_y (y_add rfl rfl (i64w (by omega))) rfl ?_
        refine L_y (y_assign rfl) rfl ?_
        refine L_nil ?_
        refine ⟨h + 1, b, by omega, ⟨⟨by omega, hbn, fun i x hi hx => wk_lt hs hp (by omega) hx (lt_of_cmp h31), hhi⟩, S4⟩, ?_⟩
        exact (Sub.cons rfl (by first | rfl | exact congrArg (Value.int _) (by omega)) (Sub.cons rfl (by first | rfl | exact congrArg (Value.int _) (by omega)) (Sub.cons rfl rfl (Sub.cons rfl rfl (Sub.cons rfl rfl (Sub.cons rfl rfl (Sub.nil _)))))))
      ·
        refine T_region ?_
        refine L_y (y_move rfl) rfl ?_
        refine L_y (y_assign rfl) rfl ?_
        refine L_nil ?_
        refine ⟨a, h, by omega, ⟨⟨by omega, by omega, hlo, fun i x hi hx => wk_ge hs hp hi hx (ge_of_cmp h31)⟩, S4⟩, ?_⟩
        exact (Sub.cons rfl (by first | rfl | exact congrArg (Value.int _) (by omega)) (Sub.cons rfl (by first | rfl | exact congrArg (Value.int _) (by omega)) (Sub.cons rfl rfl (Sub.cons rfl rfl (Sub.cons rfl rfl (Sub.cons rfl rfl (Sub.nil _)))))))
    ·
      refine T_exit ?_
      refine hK4 _ _ ?_
      refine T_seq fun K10 hK10 => ?_
      refine T_drawnL [(0, true), (1, true), (2, true), (3, true), (4, true), (5, true), (6, true), (7, true), (8, true), (9, true), (10, true), (11, false), (12, true), (13, true), (14, true), (15, true)] hmix (by kernel_rfl) fun w5 l5 => ?_
      have S5 := S2.like l5
      refine DL_y rfl (y_move rfl) rfl ?_
      refine DL_y rfl (y_move rfl) rfl ?_
      refine DL_y rfl (y_move rfl) rfl ?_
      refine DL_y rfl (y_lss rfl rfl) rfl ?_
      refine DL_y rfl (y_move rfl) rfl ?_
      refine DL_split 39 rfl (fun h39 => ?_) (fun h39 => ?_)
      ·
        obtain ⟨p, hp2⟩ : ∃ x, l[a]? = some x := ⟨_, List.getElem?_eq_getElem (by omega)⟩
        refine DL_gyes rfl rfl rfl (y_move rfl) rfl ?_
        refine DL_gyes rfl rfl rfl (y_move rfl) rfl ?_
        refine DL_gyes rfl rfl rfl (y_move rfl) rfl ?_
        refine DL_gyes rfl rfl rfl (y_idx Try.underlying94 sz119 rfl rfl (by first | exact S5.rd hl) (Nt.mk (by omega) : Nt _ (a)) (by omega)) rfl ?_
        refine DL_gyes rfl rfl rfl (y_ldp (f := rowf) rowf_len Try.underlying119 rfl sz119 rfl (S5.rd hl) (by omega) hp2) rfl ?_
        refine DL_gyes rfl rfl rfl (y_ldW Try.underlying119 rfl sz119 rfl (S5.blk 0 rfl) (row_whole y)) rfl ?_
        refine DL_ogyes rfl rfl rfl (o_callv rfl Try.func64 rfl rfl (cmpR p y w5) rfl rfl (fun d' hd => by cases hd <;> rfl) ?_)
        rintro e6 w6 ⟨v6, rfl, l6, rfl⟩
        refine ⟨_, rfl, l6, ?_⟩
        have S6 := S5.like l6
        have q6 := l6
        refine DL_gyes rfl rfl rfl (y_eql rfl rfl) rfl ?_
        refine DL_y rfl ((by first | exact y_pickT rfl rfl | exact y_pickF rfl rfl)) rfl ?_
        refine DL_y rfl (y_assign rfl) rfl ?_
        refine DL_y rfl (y_assign rfl) rfl ?_
        refine DL_nil ?_
        refine hK10 _ _ ?_
        refine T_ret ?_
        repeat (first | with_reducible refine up_then ?_ | with_reducible refine up_in ?_)
        refine ret2 rfl rfl rfl ?_
        have hat : At l y.id a := ⟨by omega, hlo, fun i x hi hx => hhi i x (by omega) hx⟩
        first | exact ⟨_, rfl, S6.like0, a, hat, by rw [hp2]; exact congrArg (fun b : Bool => Value.tuple #[.int .i64 (a : Int), .bool b]) (decide_eq_decide.2 (cmp_zero.trans (by simp)))⟩ | exact ⟨_, rfl, S6.like0, a, hat, by rw [List.getElem?_eq_none (by omega)]; rfl⟩
      ·
        refine DL_gno rfl rfl rfl rfl ?_
        refine DL_gno rfl rfl rfl rfl ?_
        refine DL_gno rfl rfl rfl rfl ?_
        refine DL_gno rfl rfl rfl rfl ?_
        refine DL_gno rfl rfl rfl rfl ?_
        refine DL_gno rfl rfl rfl rfl ?_
        refine DL_ogno rfl rfl rfl rfl ?_
        refine DL_gno rfl rfl rfl rfl ?_
        refine DL_y rfl ((by first | exact y_pickT rfl rfl | exact y_pickF rfl rfl)) rfl ?_
        refine DL_y rfl (y_assign rfl) rfl ?_
        refine DL_y rfl (y_assign rfl) rfl ?_
        refine DL_nil ?_
        refine hK10 _ _ ?_
        refine T_ret ?_
        repeat (first | with_reducible refine up_then ?_ | with_reducible refine up_in ?_)
        refine ret2 rfl rfl rfl ?_
        have hat : At l y.id a := ⟨by omega, hlo, fun i x hi hx => hhi i x (by omega) hx⟩
        first | exact ⟨_, rfl, S5.like0, a, hat, by rw [hp2]; exact congrArg (fun b : Bool => Value.tuple #[.int .i64 (a : Int), .bool b]) (decide_eq_decide.2 (cmp_zero.trans (by simp)))⟩ | exact ⟨_, rfl, S5.like0, a, hat, by rw [List.getElem?_eq_none (by omega)]; rfl⟩
end Go.Proofs.Ytgaklngnfecdaaa.Idx


/-
  Find: plain laws.
-/
namespace Go.Proofs.Ytgaklngnfecdaaa.Idx
open Go.RowKit Zk Zx
open Oid (idf idf_len cmpL)
set_option linter.unusedVariables false
set_option linter.unusedSimpArgs false

theorem StR.fs {l : List Row} (h : StR l) : FS l := by
  unfold FS
  exact h.imp fun {x y} hxy => lt_fb (by
    cases e : Oid.lt y.id x.id with
    | false => rfl
    | true => have := Oid.lt_trans _ _ _ hxy e; rw [Oid.lt_irr] at this; cases this)
/-- An id's first byte. -/
def fz (z : Oid.Id) : Nat := (z.l.getD 0 0).toNat
theorem fz_lt (z : Oid.Id) : fz z < 256 := UInt8.toNat_lt _
theorem cell_fz (z : Oid.Id) : (idf z).toArray[0]? = some (.int .u8 (fz z : Int)) := by
  unfold fz idf
  have h := z.h
  cases hl : z.l with
  | nil => rw [hl] at h; cases h
  | cons a r => rfl
/-- What Find answers. -/
def Found (l : List Row) (z : Oid.Id) (u : Value) : Prop := (∃ (k : Nat) (x : Row), l[k]? = some x ∧ x.id = z ∧ u = .tuple #[.agg (plf x).toArray, .bool true]) ∨ ((∀ x ∈ l, x.id ≠ z) ∧ u = .tuple #[.agg (plf zR).toArray, .bool false])
def sub (l : List Row) (a b : Nat) : List Row := (l.drop a).take (b - a)
theorem sub_get {l : List Row} {a b k : Nat} {x : Row} (h : (sub l a b)[k]? = some x) : l[a + k]? = some x ∧ k < b - a := by
  unfold sub at h
  rw [List.getElem?_take] at h
  split at h
  · rename_i hk; rw [List.getElem?_drop] at h; exact ⟨h, hk⟩
  · cases h
theorem sub_str {l : List Row} (hs : StR l) (a b : Nat) : StR (sub l a b) := List.Pairwise.sublist ((List.take_sublist _ _).trans (List.drop_sublist _ _)) hs
theorem sub_of {l : List Row} {a b i : Nat} {x : Row} (h : l[i]? = some x) (h1 : a ≤ i) (h2 : i < b) : (sub l a b)[i - a]? = some x := by
  unfold sub
  rw [List.getElem?_take, if_pos (by omega), List.getElem?_drop, show a + (i - a) = i by omega]
  exact h
theorem no_find {l : List Row} (hs : StR l) {z : Oid.Id} {p : Nat} (hat : At (sub l (cl l (fz z)) (cl l (fz z + 1))) z p) (hn : ¬ ((sub l (cl l (fz z)) (cl l (fz z + 1)))[p]?).map Row.id = some z) : ∀ x ∈ l, x.id ≠ z := fun x hx e => by
  obtain ⟨i, hi⟩ := List.mem_iff_getElem?.1 hx
  have hf : fb x = fz z := by unfold fb fz; rw [e]
  have h1 : ¬ i < cl l (fz z) := fun q => by have := (cl_pos hs.fs hi).1 q; omega
  have h2 : i < cl l (fz z + 1) := (cl_pos hs.fs hi).2 (by omega)
  have hx2 := sub_of (a := cl l (fz z)) hi (by omega) h2
  rcases Nat.lt_trichotomy (i - cl l (fz z)) p with q | q | q
  · have := hat.2.1 _ _ q hx2
    rw [e, Oid.lt_irr] at this
    cases this
  · rw [← q, hx2] at hn
    exact hn (by simp [e])
  · have hss := sub_str hs (cl l (fz z)) (cl l (fz z + 1))
    have hlen := (List.getElem?_eq_some_iff.1 hx2).1
    obtain ⟨y, hp⟩ : ∃ y, (sub l (cl l (fz z)) (cl l (fz z + 1)))[p]? = some y := ⟨_, List.getElem?_eq_getElem (by omega)⟩
    have h3 := hat.2.2 _ _ (Nat.le_refl _) hp
    have h4 := hss.at hp hx2 q
    rw [e] at h4
    rw [h4] at h3
    cases h3
end Go.Proofs.Ytgaklngnfecdaaa.Idx


/-
  Find.
-/
namespace Go.Proofs.Ytgaklngnfecdaaa.Idx
open Go.RowKit Zk Zx
open Oid (idf idf_len cmpL)
set_option linter.unusedVariables false
set_option linter.unusedSimpArgs false

theorem built_id (z : Oid.Id) : Try.prog.built 119 [(0, .agg (idf z).toArray)] = some (rowf ⟨z, 0, 0⟩).toArray := by
  obtain ⟨l, h⟩ := z
  obtain ⟨a0, a1, a2, a3, a4, a5, a6, a7, a8, a9, a10, a11, a12, a13, a14, a15, a16, a17, a18, a19, a20, a21, a22, a23, a24, a25, a26, a27, a28, a29, a30, a31, rfl⟩ := list32 l h
  kernel_rfl
theorem flat_drop (l : List Row) : ∀ a, (l.flatMap rowf).drop (a * 34) = (l.drop a).flatMap rowf
  | 0 => by simp
  | a + 1 => by
    cases l with
    | nil => simp
    | cons x l =>
      rw [List.flatMap_cons, List.drop_succ_cons, ← flat_drop l a, show (a + 1) * 34 = (rowf x).length + a * 34 by rw [rowf_len]; omega, List.drop_append]
      simp
theorem flat_sub (l : List Row) (a b : Nat) : ((l.flatMap rowf).drop (a * 34)).take ((b - a) * 34) = (sub l a b).flatMap rowf := by
  rw [flat_drop, flat_take rowf rowf_len]
  rfl
theorem sub_rs {w : World} {A : Option Addr} {n c a b : Nat} {l : List Row} (h : Rs w 34 A n c (l.flatMap rowf)) (h1 : a ≤ b) (h2 : b ≤ n) : Rs w 34 (cutA A c a 34) (b - a) (c - a) ((sub l a b).flatMap rowf) := by
  have := h.cut h1 h2
  rwa [flat_sub] at this
theorem sub_len (l : List Row) (a b : Nat) : (sub l a b).length ≤ l.length := by unfold sub; rw [List.length_take, List.length_drop]; omega


set_option maxRecDepth 100000 in
theorem find (g : Nat) (A : Option Addr) (n c : Nat) (l : List Row) (of : Oid.Id) (z : Oid.Id) (w0 : World) (hx : Blk w0 g 97 (idxf A n c l of).toArray) (hl : Rs w0 34 A n c (l.flatMap rowf)) (hne : ∀ ad, 0 < n → A = some ad → ad.block ≠ g) (hs : StR l) (h9 : l.length ≤ 100000) :
    Calls Try.prog 33 #[.pointer (some ⟨g, 0, none⟩), .agg (idf z).toArray] w0 fun e w' => ∃ u, e = .returned u ∧ Like w0 w' ∧ Found l z u := by
  refine enter1 (env := [(0, .pointer (some ⟨g, 0, none⟩)), (1, .agg (idf z).toArray)]) [.pointer (some ⟨g, 0, none⟩), .agg (idf z).toArray] Try.func33 rfl Try.ntmps33 rfl rfl ?_
  have hn := rows_len hl; have hcap := hl.cap; have hmax := hl.max
  have hfz := fz_lt z; have hle1 := cl_mono (StR.fs hs) (fz z); have hle2 := cl_le l (fz z + 1)
  have S0 := St.borrow1 (blk g 97 (idxf A n c l of).toArray) hx (blk_ilt hx)
  refine T_seq fun K1 hK1 => ?_
  refine T_region ?_
  refine L_o (o_box rfl S0 rfl fun b1 w1 hb1 S1 => ?_)
  refine L_o (o_alloc zz62 S1 rfl fun b2 w2 hb2 S2 => ?_)
  refine L_y (y_assign rfl) rfl ?_
  refine L_nil ?_
  refine hK1 _ _ ?_
  refine T_seq fun K2 hK2 => ?_
  refine T_seq fun K3 hK3 => ?_
  refine T_region ?_
  refine L_y (y_move rfl) rfl ?_
  refine L_y (y_peqn Try.underlying49 rfl) rfl ?_
  refine L_nil ?_
  refine hK3 _ _ ?_
  refine T_false rfl ?_
  refine T_skip ?_
  refine hK2 _ _ ?_
  refine T_seq fun K4 hK4 => ?_
  refine T_drawnL [(0, true), (1, true), (2, true), (3, true), (4, true), (5, true), (6, true), (7, true), (8, true)] hmix (by kernel_rfl) fun w3 l3 => ?_
  have S3 := S2.like l3
  refine DL_y rfl (y_move rfl) rfl ?_
  refine DL_y rfl (y_idxA0 Try.underlying23 sz5 rfl rfl inferInstance (by omega)) rfl ?_
  refine DL_y rfl (y_ldc Try.underlying5 rfl rfl (((S3.blk 1 rfl).cell _).trans (cell_fz z))) rfl ?_
  refine DL_y rfl (y_nilp rfl) rfl ?_
  refine DL_y rfl (y_fieldA 1 Try.underlying97 rfl sz95 rfl rfl rfl) rfl ?_
  refine DL_y rfl (y_idxA1 Try.underlying95 sz3 rfl rfl (Nt.mk rfl : Nt _ (fz z)) (by omega)) rfl ?_
  refine DL_y rfl (y_ldc Try.underlying3 rfl rfl (((S3.blk 0 rfl).cell _).trans (idx_fan _ _ _ _ _ (fz_lt z)))) rfl ?_
  refine DL_y rfl (y_assign rfl) rfl ?_
  refine DL_y rfl (y_assign rfl) rfl ?_
  refine DL_nil ?_
  refine hK4 _ _ ?_
  refine T_seq fun K5 hK5 => ?_
  refine T_seq fun K6 hK6 => ?_
  refine T_region ?_
  refine L_y (y_idxA0 Try.underlying23 sz5 rfl rfl inferInstance (by omega)) rfl ?_
  refine L_y (y_ldc Try.underlying5 rfl rfl (((S3.blk 1 rfl).cell _).trans (cell_fz z))) rfl ?_
  refine L_y (y_gtr rfl rfl) rfl ?_
  refine L_nil ?_
  refine hK6 _ _ ?_
  refine T_cond rfl (fun h23 => ?_) (fun h23 => ?_)
  ·
    have hfr : cl l (fz z - 1 + 1) = cl l (fz z) := by rw [show fz z - 1 + 1 = fz z by omega]
    refine T_drawnL [(0, true), (1, true), (2, true), (3, true), (4, true), (5, true), (6, true), (7, true), (8, true)] hmix (by kernel_rfl) fun w4 l4 => ?_
    have S4 := S3.like l4
    refine DL_y rfl (y_move rfl) rfl ?_
    refine DL_y rfl (y_idxA0 Try.underlying23 sz5 rfl rfl inferInstance (by omega)) rfl ?_
    refine DL_y rfl (y_ldc Try.underlying5 rfl rfl (((S4.blk 1 rfl).cell _).trans (cell_fz z))) rfl ?_
    refine DL_y rfl (y_sub rfl rfl (u8w (by omega))) rfl ?_
    refine DL_y rfl (y_nilp rfl) rfl ?_
    refine DL_y rfl (y_fieldA 1 Try.underlying97 rfl sz95 rfl rfl rfl) rfl ?_
    refine DL_y rfl (y_idxA1 Try.underlying95 sz3 rfl rfl (Nt.mk (by omega) : Nt _ (fz z - 1)) (by omega)) rfl ?_
    refine DL_y rfl (y_ldc Try.underlying3 rfl rfl (((S4.blk 0 rfl).cell _).trans (idx_fan _ _ _ _ _ (by omega)))) rfl ?_
    refine DL_y rfl (y_assign rfl) rfl ?_
    refine DL_nil ?_
    refine hK5 _ _ ?_
    refine T_seq fun K7 hK7 => ?_
    refine T_region ?_
    refine L_y (y_move rfl) rfl ?_
    refine L_y (y_nilp rfl) rfl ?_
    refine L_y (y_fieldA 0 Try.underlying97 rfl sz94 rfl rfl rfl) rfl ?_
    refine L_y (y_ldc Try.underlying94 rfl rfl (((S4.blk 0 rfl).cell _).trans (idx_row _ _ _ _ _))) rfl ?_
    refine L_y (y_move rfl) rfl ?_
    refine L_y (y_move rfl) rfl ?_
    refine L_y (y_slice Try.underlying94 sz119 rfl rfl rfl (Nt.mk (by omega) : Nt _ (cl l (fz z))) (Nt.mk (by omega) : Nt _ (cl l (fz z + 1))) (by omega) (by omega)) rfl ?_
    refine L_y (y_assign rfl) rfl ?_
    refine L_nil ?_
    refine hK7 _ _ ?_
    refine T_seq fun K8 hK8 => ?_
    refine T_region ?_
    refine L_y (y_move rfl) rfl ?_
    refine L_y (y_ldW Try.underlying23 rfl sz23 rfl (S4.blk 1 rfl) (id_whole z)) rfl ?_
    refine L_y (y_build rfl (built_id z)) rfl ?_
    refine L_o (o_call Try.func81 rfl rfl (bsearch _ _ _ (sub l (cl l (fz z)) (cl l (fz z + 1))) ⟨z, 0, 0⟩ w4 (sub_rs (S4.rdM hl hne) (by omega) (by omega)) (sub_str hs _ _) (Nat.le_trans (sub_len _ _ _) h9)) rfl rfl ?_)
    rintro e5 w5 ⟨v5, rfl, l5, p, hat, rfl⟩
    refine ⟨_, rfl, ?_⟩
    have S5 := S4.like l5
    refine L_y (y_move rfl) rfl ?_
    refine L_y (y_extract rfl rfl) rfl ?_
    refine L_y (y_extract rfl rfl) rfl ?_
    refine L_y (y_assign rfl) rfl ?_
    refine L_y (y_assign rfl) rfl ?_
    refine L_nil ?_
    refine hK8 _ _ ?_
    refine T_seq fun K9 hK9 => ?_
    refine T_seq fun K10 hK10 => ?_
    refine T_region ?_
    refine L_y (y_move rfl) rfl ?_
    refine L_y ((by first | exact y_notD rfl | exact y_not rfl)) rfl ?_
    refine L_nil ?_
    refine hK10 _ _ ?_
    refine T_condB rfl (fun h47 => ?_) (fun h47 => ?_)
    ·
      refine T_seq fun K11 hK11 => ?_
      refine T_region ?_
      refine L_y (y_build rfl (show _ = some (plf zR).toArray by kernel_rfl)) rfl ?_
      refine L_o (o_stW S5 2 rfl rfl rfl (by rw [plf_sz]; exact sz62) (by first | (rw [plf_sz, plf_sz]; done) | (rw [plf_sz]; rfl)) (fun u hu => plf_one _ u (by rw [List.toList_toArray] at hu; exact hu)) fun w6 S6 => ?_)
      refine L_y (y_assign rfl) rfl ?_
      refine L_nil ?_
      refine hK11 _ _ ?_
      refine T_ret ?_
      repeat (first | with_reducible refine up_then ?_ | with_reducible refine up_in ?_)
      refine retct rfl rfl rfl (S6.blk 2 rfl) Try.underlying62 rfl (by rw [plf_sz]; exact sz62) ?_
      exact ⟨_, rfl, like_same hx (S6.turned1 0 rfl), .inr ⟨no_find hs hat (by simpa using h47), rfl⟩⟩
    ·
      refine T_skip ?_
      refine hK9 _ _ ?_
      refine T_seq fun K12 hK12 => ?_
      obtain ⟨x, hx8⟩ : ∃ x, (sub l (cl l (fz z)) (cl l (fz z + 1)))[p]? = some x := by cases e : (sub l (cl l (fz z)) (cl l (fz z + 1)))[p]? with | none => simp [e] at h47 | some x => exact ⟨x, rfl⟩
      have hx9 := sub_get hx8
      refine T_region ?_
      refine L_y (y_move rfl) rfl ?_
      refine L_y (y_move rfl) rfl ?_
      refine L_y (y_idx Try.underlying94 sz119 rfl rfl (sub_rs (S5.rdM hl hne) (by omega) (by omega)) (Nt.mk (by omega) : Nt _ (p)) (by omega)) rfl ?_
      refine L_y (y_ldp (f := rowf) rowf_len Try.underlying119 rfl sz119 rfl (sub_rs (S5.rdM hl hne) (by omega) (by omega)) (by omega) hx8) rfl ?_
      refine L_o (o_call Try.func82 rfl rfl (place x w5) rfl rfl ?_)
      rintro e7 w7 ⟨v7, rfl, l7, rfl⟩
      refine ⟨_, rfl, ?_⟩
      have S7 := S5.like l7
      refine L_o (o_stW S7 2 rfl rfl rfl (by rw [plf_sz]; exact sz62) (by first | (rw [plf_sz, plf_sz]; done) | (rw [plf_sz]; rfl)) (fun u hu => plf_one _ u (by rw [List.toList_toArray] at hu; exact hu)) fun w8 S8 => ?_)
      refine L_y (y_assign rfl) rfl ?_
      refine L_nil ?_
      refine hK12 _ _ ?_
      refine T_ret ?_
      repeat (first | with_reducible refine up_then ?_ | with_reducible refine up_in ?_)
      refine retct rfl rfl rfl (S8.blk 2 rfl) Try.underlying62 rfl (by rw [plf_sz]; exact sz62) ?_
      exact ⟨_, rfl, like_same hx (S8.turned1 0 rfl), .inl ⟨_, x, hx9.1, by simpa [hx8] using h47, rfl⟩⟩
  ·
    have hfr : cl l (fz z) = 0 := by rw [show fz z = 0 by omega, cl_zero]
    refine T_skip ?_
    refine hK5 _ _ ?_
    refine T_seq fun K13 hK13 => ?_
    refine T_region ?_
    refine L_y (y_move rfl) rfl ?_
    refine L_y (y_nilp rfl) rfl ?_
    refine L_y (y_fieldA 0 Try.underlying97 rfl sz94 rfl rfl rfl) rfl ?_
    refine L_y (y_ldc Try.underlying94 rfl rfl (((S3.blk 0 rfl).cell _).trans (idx_row _ _ _ _ _))) rfl ?_
    refine L_y (y_move rfl) rfl ?_
    refine L_y (y_move rfl) rfl ?_
    refine L_y (y_slice Try.underlying94 sz119 rfl rfl rfl (Nt.mk (by omega) : Nt _ (cl l (fz z))) (Nt.mk (by omega) : Nt _ (cl l (fz z + 1))) (by omega) (by omega)) rfl ?_
    refine L_y (y_assign rfl) rfl ?_
    refine L_nil ?_
    refine hK13 _ _ ?_
    refine T_seq fun K14 hK14 => ?_
    refine T_region ?_
    refine L_y (y_move rfl) rfl ?_
    refine L_y (y_ldW Try.underlying23 rfl sz23 rfl (S3.blk 1 rfl) (id_whole z)) rfl ?_
    refine L_y (y_build rfl (built_id z)) rfl ?_
    refine L_o (o_call Try.func81 rfl rfl (bsearch _ _ _ (sub l (cl l (fz z)) (cl l (fz z + 1))) ⟨z, 0, 0⟩ w3 (sub_rs (S3.rdM hl hne) (by omega) (by omega)) (sub_str hs _ _) (Nat.le_trans (sub_len _ _ _) h9)) rfl rfl ?_)
    rintro e9 w9 ⟨v9, rfl, l9, p, hat, rfl⟩
    refine ⟨_, rfl, ?_⟩
    have S9 := S3.like l9
    refine L_y (y_move rfl) rfl ?_
    refine L_y (y_extract rfl rfl) rfl ?_
    refine L_y (y_extract rfl rfl) rfl ?_
    refine L_y (y_assign rfl) rfl ?_
    refine L_y (y_assign rfl) rfl ?_
    refine L_nil ?_
    refine hK14 _ _ ?_
    refine T_seq fun K15 hK15 => ?_
    refine T_seq fun K16 hK16 => ?_
    refine T_region ?_
    refine L_y (y_move rfl) rfl ?_
    refine L_y ((by first | exact y_notD rfl | exact y_not rfl)) rfl ?_
    refine L_nil ?_
    refine hK16 _ _ ?_
    refine T_condB rfl (fun h47 => ?_) (fun h47 => ?_)
    ·
      refine T_seq fun K17 hK17 => ?_
      refine T_region ?_
      refine L_y (y_build rfl (show _ = some (plf zR).toArray by kernel_rfl)) rfl ?_
      refine L_o (o_stW S9 2 rfl rfl rfl (by rw [plf_sz]; exact sz62) (by first | (rw [plf_sz, plf_sz]; done) | (rw [plf_sz]; rfl)) (fun u hu => plf_one _ u (by rw [List.toList_toArray] at hu; exact hu)) fun w10 S10 => ?_)
      refine L_y (y_assign rfl) rfl ?_
      refine L_nil ?_
      refine hK17 _ _ ?_
      refine T_ret ?_
      repeat (first | with_reducible refine up_then ?_ | with_reducible refine up_in ?_)
      refine retct rfl rfl rfl (S10.blk 2 rfl) Try.underlying62 rfl (by rw [plf_sz]; exact sz62) ?_
      exact ⟨_, rfl, like_same hx (S10.turned1 0 rfl), .inr ⟨no_find hs hat (by simpa using h47), rfl⟩⟩
    ·
      refine T_skip ?_
      refine hK15 _ _ ?_
      refine T_seq fun K18 hK18 => ?_
      obtain ⟨x, hx8⟩ : ∃ x, (sub l (cl l (fz z)) (cl l (fz z + 1)))[p]? = some x := by cases e : (sub l (cl l (fz z)) (cl l (fz z + 1)))[p]? with | none => simp [e] at h47 | some x => exact ⟨x, rfl⟩
      have hx9 := sub_get hx8
      refine T_region ?_
      refine L_y (y_move rfl) rfl ?_
      refine L_y (y_move rfl) rfl ?_
      refine L_y (y_idx Try.underlying94 sz119 rfl rfl (sub_rs (S9.rdM hl hne) (by omega) (by omega)) (Nt.mk (by omega) : Nt _ (p)) (by omega)) rfl ?_
      refine L_y (y_ldp (f := rowf) rowf_len Try.underlying119 rfl sz119 rfl (sub_rs (S9.rdM hl hne) (by omega) (by omega)) (by omega) hx8) rfl ?_
      refine L_o (o_call Try.func82 rfl rfl (place x w9) rfl rfl ?_)
      rintro e11 w11 ⟨v11, rfl, l11, rfl⟩
      refine ⟨_, rfl, ?_⟩
      have S11 := S9.like l11
      refine L_o (o_stW S11 2 rfl rfl rfl (by rw [plf_sz]; exact sz62) (by first | (rw [plf_sz, plf_sz]; done) | (rw [plf_sz]; rfl)) (fun u hu => plf_one _ u (by rw [List.toList_toArray] at hu; exact hu)) fun w12 S12 => ?_)
      refine L_y (y_assign rfl) rfl ?_
      refine L_nil ?_
      refine hK18 _ _ ?_
      refine T_ret ?_
      repeat (first | with_reducible refine up_then ?_ | with_reducible refine up_in ?_)
      refine retct rfl rfl rfl (S12.blk 2 rfl) Try.underlying62 rfl (by rw [plf_sz]; exact sz62) ?_
      exact ⟨_, rfl, like_same hx (S12.turned1 0 rfl), .inl ⟨_, x, hx9.1, by simpa [hx8] using h47, rfl⟩⟩
end Go.Proofs.Ytgaklngnfecdaaa.Idx


/-
  Reading an index: plain laws.
-/
namespace Go.Proofs.Ytgaklngnfecdaaa.Idx
open Go.RowKit Zk Zx
open Oid (idf idf_len cmpL)
set_option linter.unusedVariables false
set_option linter.unusedSimpArgs false

/-- What stands at a place: an id, a number of four bytes. -/
def idAt (t : List UInt8) (p : Nat) : Oid.Id := if h : ((t.drop p).take 32).length = 32 then ⟨(t.drop p).take 32, h⟩ else zI
def b4 (t : List UInt8) (p : Nat) : Nat := Oct.be ((t.drop p).take 4)
theorem idAt_l {t : List UInt8} {p : Nat} (h : p + 32 ≤ t.length) : (idAt t p).l = (t.drop p).take 32 := by
  unfold idAt
  rw [dif_pos (by rw [List.length_take, List.length_drop]; omega)]
theorem b4_lt (t : List UInt8) (p : Nat) : b4 t p < 4294967296 := by
  unfold b4
  have h := Oct.be_lt ((t.drop p).take 4)
  have h2 : 256 ^ ((t.drop p).take 4).length ≤ 256 ^ 4 := Nat.pow_le_pow_right (by omega) (by rw [List.length_take]; omega)
  have h3 : (256 : Nat) ^ 4 = 4294967296 := by decide
  omega
/-- The rows read so far. -/
def rowsP (t : List UInt8) (n k1 k2 k3 : Nat) : List Row := (List.range n).map fun i => ⟨if i < k1 then idAt t (1024 + 32 * i) else zI, if i < k2 then (b4 t (1024 + 32 * n + 4 * i) : Int) else 0, if i < k3 then (b4 t (1024 + 36 * n + 4 * i) : Int) else 0⟩
theorem rowsP_len (t : List UInt8) (n k1 k2 k3 : Nat) : (rowsP t n k1 k2 k3).length = n := by simp [rowsP]
theorem rowsP_get {t : List UInt8} {n k1 k2 k3 i : Nat} (h : i < n) : (rowsP t n k1 k2 k3)[i]? = some ⟨if i < k1 then idAt t (1024 + 32 * i) else zI, if i < k2 then (b4 t (1024 + 32 * n + 4 * i) : Int) else 0, if i < k3 then (b4 t (1024 + 36 * n + 4 * i) : Int) else 0⟩ := by
  simp [rowsP, h]
theorem rowsP_id {t : List UInt8} {n k : Nat} {x : Row} (h : k < n) (hx : (rowsP t n k 0 0)[k]? = some x) : (rowsP t n k 0 0).set k { x with id := idAt t (1024 + 32 * k) } = rowsP t n (k + 1) 0 0 := by
  rw [rowsP_get h] at hx
  cases hx
  apply List.ext_getElem?
  intro i
  rw [List.getElem?_set]
  by_cases hi : i < n
  · rw [rowsP_get hi, rowsP_get hi]
    by_cases e : k = i
    · subst e; simp [rowsP_len, h]
    · rw [if_neg e]
      have : (i < k + 1) ↔ (i < k) := by omega
      simp [this]
  · rw [List.getElem?_eq_none (by rw [rowsP_len]; omega), List.getElem?_eq_none (by rw [rowsP_len]; omega), if_neg (by omega)]
/-- A field stored in a row of the flat cells. -/
theorem flat_id {L : List Row} {k : Nat} {x : Row} (z : Oid.Id) (hx : L[k]? = some x) : (L.flatMap rowf).take (k * 34 + 0) ++ (idf z) ++ (L.flatMap rowf).drop (k * 34 + 0 + 32) = (L.set k { x with id := z }).flatMap rowf := by
  have hk := (List.getElem?_eq_some_iff.1 hx).1
  rw [← flat_set rowf rowf_len L k _ hk, Nat.add_zero]
  have e : (L.flatMap rowf).drop (k * 34 + 32) = (rowf x).drop 32 ++ (L.flatMap rowf).drop ((k + 1) * 34) := by
    have h1 := flat_cut rowf 34 rowf_len L k x hx
    rw [← h1, List.drop_take, List.drop_drop, show (k + 1) * 34 = k * 34 + 32 + 2 by omega]
    rw [← List.drop_drop (i := 2) (j := k * 34 + 32), List.take_append_drop]
  rw [e]
  unfold rowf
  rw [List.drop_append_of_le_length (by rw [idf_len]; omega), List.drop_of_length_le (by rw [idf_len]; omega)]
  simp
theorem flat_fld {L : List Row} {k o : Nat} {x y : Row} {v : Value} (hx : L[k]? = some x) (ho : o < 34) (hy : rowf y = (rowf x).set o v) : (L.flatMap rowf).set (k * 34 + o) v = (L.set k y).flatMap rowf := by
  have hk := (List.getElem?_eq_some_iff.1 hx).1
  have hself : L.set k x = L := by
    obtain ⟨h1, h2⟩ := List.getElem?_eq_some_iff.1 hx
    rw [← h2, List.set_getElem_self]
  have e0 := flat_set rowf rowf_len L k x hk
  rw [hself] at e0
  rw [← flat_set rowf rowf_len L k _ hk, hy]
  have hT : ((L.flatMap rowf).take (k * 34)).length = k * 34 := by
    rw [List.length_take, flat_len rowf 34 rowf_len]
    have : (k + 1) * 34 ≤ L.length * 34 := Nat.mul_le_mul_right _ hk
    omega
  conv => lhs; rw [← e0]
  rw [List.set_append_left _ _ (by rw [List.length_append, hT, rowf_len]; omega), List.set_append_right _ _ (by rw [hT]; omega), hT, show k * 34 + o - k * 34 = o by omega]
end Go.Proofs.Ytgaklngnfecdaaa.Idx


/-
  Reading an index: more laws.
-/
namespace Go.Proofs.Ytgaklngnfecdaaa.Idx
open Go.RowKit Zk Zx
open Oid (idf idf_len cmpL)
set_option linter.unusedVariables false
set_option linter.unusedSimpArgs false

open Oct (rdr)
theorem rw_ok {l : List UInt8} {p k : Nat} (h : p + k ≤ l.length) : Oct.rwL l p 0 k = (l.drop p).take k ∧ Oct.rwP l p 0 k = p + k ∧ Oct.rwE l p 0 k = 0 := by
  have h2 : k ≤ l.length - p := by omega
  exact ⟨by rw [Oct.rwL, if_pos rfl, Oct.tkL, if_pos h2], by rw [Oct.rwP, if_pos rfl, Oct.tkP, if_pos h2], by rw [Oct.rwE, if_pos rfl, Oct.tkE_ok h2]⟩
/-- 256 numbers, so many of them given. -/
def arrG (f : Nat → Int) (i : Nat) : List Value := ((List.range i).map fun c => Value.int .i64 (f c)) ++ List.replicate (256 - i) (.int .i64 0)
theorem arrG_len (f : Nat → Int) {i : Nat} (h : i ≤ 256) : (arrG f i).length = 256 := by simp [arrG]; omega
theorem arrG_one (f : Nat → Int) (i : Nat) : ∀ u ∈ arrG f i, u.oneCell' = true := fun u hu => by
  unfold arrG at hu
  rcases List.mem_append.1 hu with h | h
  · obtain ⟨c, _, rfl⟩ := List.mem_map.1 h; rfl
  · rw [(List.mem_replicate.1 h).2]; rfl
theorem arrG_set (f : Nat → Int) {i : Nat} (h : i < 256) : (arrG f i).toArray.setIfInBounds i (.int .i64 (f i)) = (arrG f (i + 1)).toArray := by
  rw [List.setIfInBounds_toArray]
  congr 1
  unfold arrG
  rw [List.set_append_right _ _ (by simp), List.range_succ, List.map_append, List.append_assoc]
  congr 1
  rw [show 256 - i = (256 - (i + 1)) + 1 by omega, List.replicate_succ]
  simp
/-- An index' block while it is read. -/
def idxG (A : Option Addr) (n c : Nat) (fs : List Value) (of : Oid.Id) : List Value := [.slice A n c] ++ fs ++ idf of
def said (t : List UInt8) : List Value := arrG (fun c => (b4 t (4 * c) : Int)) 256
end Go.Proofs.Ytgaklngnfecdaaa.Idx


/-
  Results, one of them in a variable; a callee's state taken over whole.
-/
namespace Go.Proofs.Ytgaklngnfecdaaa.Zx
open Go.RowKit Zk
set_option linter.unusedVariables false
set_option linter.unusedSimpArgs false
theorem St.adoptS {w0 w w' : World} {M : Nat → Prop} {rs qs : List Res} (S : St w0 M rs w) (T : St w noM qs w') : St w0 M (rs ++ qs) w' := by
  have S' := S.like T.like0
  refine ⟨S'.os, S'.tape, S'.output, S'.size, S'.old, fun q hq => ?_, ?_⟩
  · rcases List.mem_append.1 hq with hq | hq
    · exact S'.res q hq
    · refine ⟨(T.res q hq).1, fun i hi => ?_⟩
      have h := (T.res q hq).2 i hi
      refine ⟨h.1, .inl ?_⟩
      rcases h.2 with h2 | h2
      · exact Nat.le_trans S.size h2
      · exact h2.elim
  · rw [List.pairwise_append]
    refine ⟨S'.apart, T.apart, fun q hq s hs i hi hsi => ?_⟩
    have h1 := ((S.res q hq).2 i hi).1
    have h2 := ((T.res s hs).2 i hsi).2
    rcases h2 with h2 | h2
    · omega
    · exact h2
section
variable {P : Program} {N : Nat} {Q : Exit → Env → World → Prop} {env : Env} {w w0 : World}
theorem resT_B {fn : Func} {p q : Tmp} {ty : TypeId} (h : fn.results = #[.tmp q, .cell p ty]) (tmps : Array Value) {g : Nat} {t : TypeId} {cs : Array Value}
    (hp : tmps.getD p undef = .pointer (some ⟨g, 0, none⟩)) (hb : Blk w g t cs) (d : TypeDesc) (hu : P.underlying ty = some d) (hd : d.isRow = true) (hi : (P.info? ty).map (·.size) = some cs.size) :
    (results fn tmps).run P w = .ok (.tuple #[tmps.getD q undef, .agg cs]) w := by
  have hp' : tmps[p]?.getD undef = .pointer (some ⟨g, 0, none⟩) := by simpa using hp
  simp [results, h, hp', asAddr, run_loadB hb d hu hd hi]
theorem rettc {fn : Func} {R : Ending → World → Prop} {p q : Tmp} {lt b t : Nat} {cs : Array Value} {d : TypeDesc} {v : Value} (hr : fn.results = #[.tmp q, .cell p lt]) (hp : look env p = some (.pointer (some ⟨b, 0, none⟩))) (hq : look env q = some v) (hb : Blk w b t cs) (hd : P.underlying lt = some d) (hrow : d.isRow = true)
    (hsz : (P.info? lt).map (·.size) = some cs.size) (h : R (.returned (.tuple #[v, .agg cs])) w) (hd0 : dfs env = [] := by rfl) : bodyQ P fn R .ret env w :=
  ⟨hd0, _, fun N a ha => by rw [resT_B hr a.tmps (ha.getD hp) hb d hd hrow hsz, ha.getD hq], h⟩
variable {S : World → Prop} {dst : Option Tmp} {ty : TypeId} {pos : String} {after : Array Edge} {gd : Option (Nat × Bool)}
/-- '!=' on arrays of ints. -/
theorem y_neA {x y : Operand} {t e u : TypeId} {n : Nat} {xs ys : Array Value} (f g : Nat → Int) (ht : P.underlying t = some (.array n e)) (he : P.underlying e = some (.int .i64)) (hs : (P.info? e).map (·.size) = some 1) (hm : P.eqGuardType P.depth t = false)
    (hx : ev env x = some (.agg xs)) (hy : ev env y = some (.agg ys)) (hf : ∀ i, i < n → xs[i]? = some (.int .i64 (f i))) (hg : ∀ i, i < n → ys[i]? = some (.int .i64 (g i))) :
    Y P S env ⟨dst, .binOp .neq t x y u, ty, pos, after, gd⟩ (.bool (!((List.range n).all fun i => f i == g i))) := fun N a w ha _ => by
  have h1 := run_neq_struct (P := P) w t xs ys
  rw [run_equalIn_arr' w 9999 ht _ he rfl hs xs ys f g hf hg (fun x y => run_equalIn_int w 9998 e .i64 .i64 x y he), Result.andThen_ok] at h1
  simp only [execOp, ha.eval hx, ha.eval hy, Sem.run_bind, eqGuard_run .neq x y _ _ hm w, Result.andThen_ok, h1, Sem.run_pure]
theorem all_ne {n : Nat} {f g : Nat → Int} : (!((List.range n).all fun i => f i == g i)) = true ↔ ¬ ∀ i, i < n → f i = g i := by
  rw [Bool.not_eq_true', Bool.eq_false_iff, ne_eq, List.all_eq_true]
  simp
end
end Go.Proofs.Ytgaklngnfecdaaa.Zx


/-
  Reading an index.
-/
namespace Go.Proofs.Ytgaklngnfecdaaa.Idx
open Go.RowKit Zk Zx
open Oid (idf idf_len cmpL)
set_option linter.unusedVariables false
set_option linter.unusedSimpArgs false

open Oct (rdr)
theorem rs_tail {w : World} {A : Option Addr} {n c : Nat} {b : List UInt8} (k : Nat) (h : Rs w 1 A n c (bL b)) (h1 : k ≤ n) : Rs w 1 (cutA A c k 1) (n - k) (c - k) (bL (b.drop k)) := by
  have h2 := h.cutb (l := k) (u := n) h1 (Nat.le_refl _)
  rwa [List.take_of_length_le (by rw [List.length_drop, h.lenb]; omega)] at h2
theorem flat_rep {x : Row} {n i : Nat} (h : i < n * 34) : ((List.replicate n x).flatMap rowf)[i]? = (rowf x)[i % 34]? := by
  have hd := Nat.div_add_mod i 34
  have hm := Nat.mod_lt i (y := 34) (by omega)
  have hk : i / 34 < n := by omega
  have e : i = i / 34 * 34 + i % 34 := by omega
  conv => lhs; rw [e]
  exact flat_at rowf 34 rowf_len _ _ x (by rw [List.getElem?_replicate, if_pos hk]) _ hm
theorem rows0 (t : List UInt8) (n : Nat) : List.replicate n zR = rowsP t n 0 0 0 := by
  apply List.ext_getElem?
  intro i
  by_cases h : i < n
  · rw [rowsP_get h, List.getElem?_replicate, if_pos h]; rfl
  · rw [List.getElem?_eq_none (by simp; omega), List.getElem?_eq_none (by rw [rowsP_len]; omega)]
theorem row_set32 (x : Row) (v : Int) : rowf { x with sm := v } = (rowf x).set 32 (.int .u32 v) := by
  unfold rowf
  rw [List.set_append_right _ _ (by rw [idf_len]; omega), idf_len]
  rfl
theorem row_set33 (x : Row) (v : Int) : rowf { x with at_ := v } = (rowf x).set 33 (.int .i64 v) := by
  unfold rowf
  rw [List.set_append_right _ _ (by rw [idf_len]; omega), idf_len]
  rfl
theorem rowsP_sm {t : List UInt8} {n k : Nat} {x : Row} (h : k < n) (hx : (rowsP t n n k 0)[k]? = some x) : (rowsP t n n k 0).set k { x with sm := (b4 t (1024 + 32 * n + 4 * k) : Int) } = rowsP t n n (k + 1) 0 := by
  rw [rowsP_get h] at hx
  cases hx
  apply List.ext_getElem?
  intro i
  rw [List.getElem?_set]
  by_cases hi : i < n
  · rw [rowsP_get hi, rowsP_get hi]
    by_cases e : k = i
    · subst e; simp [rowsP_len, h]
    · rw [if_neg e]
      have : (i < k + 1) ↔ (i < k) := by omega
      simp [this]
  · rw [List.getElem?_eq_none (by rw [rowsP_len]; omega), List.getElem?_eq_none (by rw [rowsP_len]; omega), if_neg (by omega)]
theorem rowsP_at {t : List UInt8} {n k : Nat} {x : Row} (h : k < n) (hx : (rowsP t n n n k)[k]? = some x) : (rowsP t n n n k).set k { x with at_ := (b4 t (1024 + 36 * n + 4 * k) : Int) } = rowsP t n n n (k + 1) := by
  rw [rowsP_get h] at hx
  cases hx
  apply List.ext_getElem?
  intro i
  rw [List.getElem?_set]
  by_cases hi : i < n
  · rw [rowsP_get hi, rowsP_get hi]
    by_cases e : k = i
    · subst e; simp [rowsP_len, h]
    · rw [if_neg e]
      have : (i < k + 1) ↔ (i < k) := by omega
      simp [this]
  · rw [List.getElem?_eq_none (by rw [rowsP_len]; omega), List.getElem?_eq_none (by rw [rowsP_len]; omega), if_neg (by omega)]
theorem idxG_row (A : Option Addr) (n c : Nat) (fs : List Value) (of : Oid.Id) : (idxG A n c fs of).toArray[0]? = some (.slice A n c) := rfl
theorem idxG_of {A : Option Addr} {n c : Nat} {fs : List Value} {of z : Oid.Id} (h : fs.length = 256) : ((idxG A n c fs of).toArray.toList.take 257 ++ (idf z).toArray.toList ++ (idxG A n c fs of).toArray.toList.drop (257 + (idf z).toArray.size)).toArray = (idxG A n c fs z).toArray := by
  congr 1
  rw [List.drop_of_length_le (by simp [idxG, h, idf_len]), List.append_nil]
  unfold idxG
  rw [List.toList_toArray, List.take_append_of_le_length (by simp [h]), List.take_of_length_le (by simp [h])]
theorem idxG_len {A : Option Addr} {n c : Nat} {fs : List Value} {of : Oid.Id} (h : fs.length = 256) : (idxG A n c fs of).toArray.size = 289 := by simp [idxG, h, idf_len]
theorem said_whole (f : Nat → Int) (i : Nat) (h : i ≤ 256) : ((arrG f i).toArray.toList.drop 0).take 256 = arrG f i ∧ (arrG f i).length = 256 := ⟨by rw [List.drop_zero]; exact List.take_of_length_le (by have := arrG_len f h; simp only [] at this ⊢; omega), arrG_len f h⟩
/-- What read answers. -/
def Red (w0 w' : World) (b : List UInt8) (n : Nat) (u : Value) : Prop := ∃ g A1, u = .tuple #[.pointer (some ⟨g, 0, none⟩), .agg (said (b.drop 8)).toArray] ∧ Zx.St w0 noM [Zx.row 119 34 A1 n n ((rowsP (b.drop 8) n n n n).flatMap rowf), blk g 97 (idxG A1 n n (List.replicate 256 (.int .i64 0)) (idAt (b.drop 8) (1024 + 40 * n))).toArray] w'

theorem zR_cells : (Value.agg #[.int .u8 0, .int .u8 0, .int .u8 0, .int .u8 0, .int .u8 0, .int .u8 0, .int .u8 0, .int .u8 0, .int .u8 0, .int .u8 0, .int .u8 0, .int .u8 0, .int .u8 0, .int .u8 0, .int .u8 0, .int .u8 0, .int .u8 0, .int .u8 0, .int .u8 0, .int .u8 0, .int .u8 0, .int .u8 0, .int .u8 0, .int .u8 0, .int .u8 0, .int .u8 0, .int .u8 0, .int .u8 0, .int .u8 0, .int .u8 0, .int .u8 0, .int .u8 0, .int .u32 0, .int .i64 0] : Value).cells = (rowf zR).toArray := by kernel_rfl


set_option maxRecDepth 100000 in
theorem read (B : Option Addr) (m d : Nat) (b : List UInt8) (n : Nat) (w0 : World) (hb : Rs w0 1 B m d (bL b)) (hl : b.length = 1096 + 40 * n) (hn : n ≤ 600) :
    Calls Try.prog 75 #[.slice B m d, .int .i64 (n : Int)] w0 fun e w' => ∃ u, e = .returned u ∧ Like w0 w' ∧ Red w0 w' b n u := by
  refine enter1 (env := [(0, .slice B m d), (1, .int .i64 (n : Int))]) [.slice B m d, .int .i64 (n : Int)] Try.func75 rfl Try.ntmps75 rfl rfl ?_
  have hm := hb.lenb; have hcap := hb.cap; have hmax := hb.max; have ht : (b.drop 8).length = 1088 + 40 * n := by rw [List.length_drop]; omega
  have S0 := St.start w0 noM
  refine T_seq fun K1 hK1 => ?_
  refine T_region ?_
  refine L_y (y_assign rfl) rfl ?_
  refine L_o (o_alloc zz95 S0 rfl fun b1 w1 hb1 S1 => ?_)
  refine L_nil ?_
  refine hK1 _ _ ?_
  refine T_seq fun K2 hK2 => ?_
  refine T_region ?_
  refine L_y (y_move rfl) rfl ?_
  refine L_y (y_sliceL Try.underlying27 sz5 rfl rfl inferInstance (by omega)) rfl ?_
  refine L_o (o_call Try.func71 rfl rfl (Oct.rnew _ _ _ (b.drop 8) w1 (rs_tail 8 (S1.rd hb) (by omega)) (by omega)) rfl rfl ?_)
  rintro e2 w2 ⟨v2, rfl, l2, g, A, c, rfl, hh2, dd2⟩
  refine ⟨_, rfl, ?_⟩
  have S2 := S1.new l2 _ hh2 dd2
  refine L_y (y_assign rfl) rfl ?_
  refine L_nil ?_
  refine hK2 _ _ ?_
  refine T_seq fun K3 hK3 => ?_
  refine T_region ?_
  refine L_o (o_alloc zz95 S2 rfl fun b3 w3 hb3 S3 => ?_)
  refine L_nil ?_
  refine hK3 _ _ ?_
  refine T_seq fun K4 hK4 => ?_
  refine T_seq fun K5 hK5 => ?_
  refine T_region ?_
  refine L_y (y_move rfl) rfl ?_
  refine L_nil ?_
  refine hK5 _ _ ?_
  refine T_block ?_
  refine T_loop1 [(1, _), (5, _), (6, _), (7, _)] (fun (i : Nat) => [(16, .int .i64 (i : Int))]) (fun (i : Nat) => 256 - i) (fun (i : Nat) (w : World) => i ≤ 256 ∧ Zx.St w0 noM [blk b1 95 (arrG (fun c => (b4 (b.drop 8) (4 * c) : Int)) 0).toArray, rdr g A (m - 8) c (b.drop 8) (4 * i) 0, blk b3 95 (arrG (fun c => (b4 (b.drop 8) (4 * c) : Int)) i).toArray] w) 0 (Sub.cons rfl (by first | rfl | exact congrArg (Value.int _) (by omega)) (Sub.nil _)) (Sub.cons rfl rfl (Sub.cons rfl rfl (Sub.cons rfl rfl (Sub.cons rfl rfl (Sub.nil _))))) ?_ ?_
  ·
    have S70 : Zx.St w0 noM [blk b1 95 (arrG (fun c => (b4 (b.drop 8) (4 * c) : Int)) 0).toArray, rdr g A (m - 8) c (b.drop 8) (4 * 0) 0, blk b3 95 (arrG (fun c => (b4 (b.drop 8) (4 * c) : Int)) 0).toArray] w3 := S3.cast (by kernel_rfl)
    exact ⟨by omega, S70⟩
  ·
    intro i w4 hrel
    obtain ⟨hi, S4⟩ := hrel
    refine T_seq fun K6 hK6 => ?_
    refine T_region ?_
    refine L_y (y_lss rfl rfl) rfl ?_
    refine L_nil ?_
    refine hK6 _ _ ?_
    refine T_seq fun K7 hK7 => ?_
    refine T_cond rfl (fun h17 => ?_) (fun h17 => ?_)
    ·
      refine T_skip ?_
      refine hK7 _ _ ?_
      refine T_seq fun K8 hK8 => ?_
      refine T_block ?_
      refine T_seq fun K9 hK9 => ?_
      refine T_region ?_
      refine L_y (y_move rfl) rfl ?_
      refine L_y (y_assign rfl) rfl ?_
      refine L_nil ?_
      refine hK9 _ _ ?_
      refine T_region ?_
      refine L_y (y_move rfl) rfl ?_
      refine L_y (y_move rfl) rfl ?_
      refine L_o (o_call Try.func73 rfl rfl (Oct.ru32 g A (m - 8) c (b.drop 8) (4 * i) 0 w4 (S4.get 1 rfl) (by omega) (by omega)) rfl rfl ?_)
      rintro e5 w5 ⟨v5, rfl, rfl, T5⟩
      refine ⟨_, rfl, ?_⟩
      have S5 := S4.turn 1 rfl T5
      obtain ⟨e1, e2, e3⟩ := rw_ok (l := b.drop 8) (p := 4 * i) (k := 4) (by omega)
      rw [e2, e3] at S5
      rw [e1]
      have hb4 : Oct.be (((b.drop 8).drop (4 * i)).take 4) < 4294967296 := b4_lt _ _
      rw [show 4 * i + 4 = 4 * (i + 1) by omega] at S5
      refine L_y (y_conv is60 Try.underlying3 rfl (i64w (by omega))) rfl ?_
      refine L_y (y_idxA0 Try.underlying95 sz3 rfl rfl inferInstance (by omega)) rfl ?_
      refine L_o (o_st1 S5 2 rfl rfl rfl rfl sz3 (by rw [List.size_toArray, arrG_len _ (by omega)]; omega) fun w6 S6 => ?_)
      have S90 := S6.blkc 2 rfl (arrG_set (fun c => (b4 (b.drop 8) (4 * c) : Int)) (i := i) (by omega))
      refine L_nil ?_
      refine hK8 _ _ ?_
      refine T_region ?_
      refine L_y (y_add rfl rfl (i64w (by omega))) rfl ?_
      refine L_y (y_move rfl) rfl ?_
      refine L_nil ?_
      refine ⟨i + 1, by omega, ⟨by omega, S90⟩, ?_⟩
      exact (Sub.cons rfl (by first | rfl | exact congrArg (Value.int _) (by omega)) (Sub.cons rfl rfl (Sub.cons rfl rfl (Sub.cons rfl rfl (Sub.cons rfl rfl (Sub.nil _))))))
    ·
      refine T_exit ?_
      refine hK4 _ _ ?_
      refine T_seq fun K10 hK10 => ?_
      obtain rfl : i = 256 := by omega
      refine T_region ?_
      refine L_y (y_move rfl) rfl ?_
      refine L_o (o_makeN te94 ((List.replicate n zR).flatMap rowf) (by rw [flat_len rowf 34 rowf_len, List.length_replicate]) (fun i hi => (flat_rep hi).trans (by rw [zR_cells, List.getElem?_toArray])) (by omega) S4 rfl rfl inferInstance inferInstance rfl (by omega) (by omega) (by omega) fun b7 w7 S7 => ?_)
      rw [rows0 (b.drop 8)] at S7
      refine L_y (y_build rfl (show _ = some (idxG (some ⟨b7, 0, none⟩) n n (List.replicate 256 (.int .i64 0)) zI).toArray by kernel_rfl)) rfl ?_
      refine L_o (o_box rfl S7 rfl fun b8 w8 hb8 S8 => ?_)
      refine L_y (y_assign rfl) rfl ?_
      refine L_nil ?_
      refine hK10 _ _ ?_
      refine T_seq fun K11 hK11 => ?_
      refine T_seq fun K12 hK12 => ?_
      refine T_region ?_
      refine L_y (y_move rfl) rfl ?_
      refine L_y (y_nilp rfl) rfl ?_
      refine L_y (y_fieldA 0 Try.underlying97 rfl sz94 rfl rfl rfl) rfl ?_
      refine L_y (y_ldc Try.underlying94 rfl rfl (((S8.blk 4 rfl).cell _).trans (idxG_row _ _ _ _ _))) rfl ?_
      refine L_y (y_len Try.underlying94 rfl) rfl ?_
      refine L_y (y_move rfl) rfl ?_
      refine L_nil ?_
      refine hK12 _ _ ?_
      refine T_block ?_
      refine T_loop1 [(5, _), (6, _), (7, _), (9, _), (33, _)] (fun (k : Nat) => [(34, .int .i64 (k : Int))]) (fun (k : Nat) => n - k) (fun (k : Nat) (w : World) => k ≤ n ∧ Zx.St w0 noM [blk b1 95 (arrG (fun c => (b4 (b.drop 8) (4 * c) : Int)) 0).toArray, rdr g A (m - 8) c (b.drop 8) (1024 + 32 * k) 0, blk b3 95 (arrG (fun c => (b4 (b.drop 8) (4 * c) : Int)) 256).toArray, Zx.row 119 34 (some ⟨b7, 0, none⟩) n n ((rowsP (b.drop 8) n k 0 0).flatMap rowf), blk b8 97 (idxG (some ⟨b7, 0, none⟩) n n (List.replicate 256 (.int .i64 0)) zI).toArray] w) 0 (Sub.cons rfl (by first | rfl | exact congrArg (Value.int _) (by omega)) (Sub.nil _)) (Sub.cons rfl rfl (Sub.cons rfl rfl (Sub.cons rfl rfl (Sub.cons rfl rfl (Sub.cons rfl rfl (Sub.nil _)))))) ?_ ?_
      ·
        exact ⟨by omega, S8⟩
      ·
        intro k w9 hrel
        obtain ⟨hk, S9⟩ := hrel
        refine T_seq fun K13 hK13 => ?_
        refine T_region ?_
        refine L_y (y_lss rfl rfl) rfl ?_
        refine L_nil ?_
        refine hK13 _ _ ?_
        refine T_seq fun K14 hK14 => ?_
        refine T_cond rfl (fun h35 => ?_) (fun h35 => ?_)
        ·
          obtain ⟨x, hx⟩ : ∃ x, (rowsP (b.drop 8) n k 0 0)[k]? = some x := ⟨_, List.getElem?_eq_getElem (by rw [rowsP_len]; omega)⟩
          refine T_skip ?_
          refine hK14 _ _ ?_
          refine T_seq fun K15 hK15 => ?_
          refine T_block ?_
          refine T_seq fun K16 hK16 => ?_
          refine T_region ?_
          refine L_y (y_move rfl) rfl ?_
          refine L_y (y_assign rfl) rfl ?_
          refine L_nil ?_
          refine hK16 _ _ ?_
          refine T_drawnX (fun w => Blk w b8 97 (idxG (some ⟨b7, 0, none⟩) n n (List.replicate 256 (.int .i64 0)) zI).toArray) hmix (by kernel_rfl) (fun w l => ((S9.like l).blk 4 rfl)) fun w10 l10 => ?_
          have S10 := S9.like l10
          refine DX_y 0 (by kernel_rfl) rfl (y_move rfl) rfl ?_
          refine DX_y 1 (by kernel_rfl) rfl (y_nilp rfl) rfl ?_
          refine DX_y 2 (by kernel_rfl) rfl (y_fieldA 0 Try.underlying97 rfl sz94 rfl rfl rfl) rfl ?_
          refine DX_y 3 (by kernel_rfl) rfl (y_of fun w hw => y_ldc Try.underlying94 rfl rfl ((hw.cell _).trans (idxG_row _ _ _ _ _))) rfl ?_
          refine DX_y 4 (by kernel_rfl) rfl (y_move rfl) rfl ?_
          refine DX_y 5 (by kernel_rfl) rfl (y_move rfl) rfl ?_
          refine DX_o1 6 (by kernel_rfl) rfl ?_
          refine o_call Try.func119 rfl rfl (take g A (m - 8) c (b.drop 8) (1024 + 32 * k) (idAt (b.drop 8) (1024 + 32 * k)) w10 (S10.get 1 rfl) (by omega) (by omega) (idAt_l (by omega))) rfl rfl ?_
          rintro e11 w11 ⟨v11, rfl, T11, rfl⟩
          refine ⟨_, rfl, ?_⟩
          have S11 := S10.turn 1 rfl T11
          rw [show 1024 + 32 * k + 32 = 1024 + 32 * (k + 1) by omega] at S11
          refine ⟨(S11.blk 4 rfl), ?_⟩
          refine DX_y 7 (by kernel_rfl) rfl (y_idx Try.underlying94 sz119 rfl rfl (S10.row 3 rfl) inferInstance (by omega)) rfl ?_
          refine DX_y 8 (by kernel_rfl) rfl (y_fieldR 0 Try.underlying119 rfl sz23 rfl rfl (S10.row 3 rfl) (by omega) rfl) rfl ?_
          refine DX_o1 9 (by kernel_rfl) rfl ?_
          refine o_strowF S11 3 rfl rfl rfl (fun u hu => bL_one _ u (by rw [List.toList_toArray] at hu; exact hu)) (by rw [List.size_toArray, idf_len]) sz23 (by omega) (by omega) fun w12 S12 => ?_
          refine ⟨(S12.blk 4 rfl), ?_⟩
          refine DX_nil (by kernel_rfl) ?_
          refine hK15 _ _ ?_
          refine T_region ?_
          refine L_y (y_add rfl rfl (i64w (by omega))) rfl ?_
          refine L_y (y_move rfl) rfl ?_
          refine L_nil ?_
          have S91 := S12.rowc 3 rfl rfl ((flat_id (idAt (b.drop 8) (1024 + 32 * k)) hx).trans (congrArg (fun q => q.flatMap rowf) (rowsP_id (by omega) hx)))
          refine ⟨k + 1, by omega, ⟨by omega, S91⟩, ?_⟩
          exact (Sub.cons rfl (by first | rfl | exact congrArg (Value.int _) (by omega)) (Sub.cons rfl rfl (Sub.cons rfl rfl (Sub.cons rfl rfl (Sub.cons rfl rfl (Sub.cons rfl rfl (Sub.nil _)))))))
        ·
          obtain rfl : n = k := by omega
          refine T_exit ?_
          refine hK11 _ _ ?_
          refine T_seq fun K17 hK17 => ?_
          refine T_seq fun K18 hK18 => ?_
          refine T_region ?_
          refine L_y (y_move rfl) rfl ?_
          refine L_y (y_nilp rfl) rfl ?_
          refine L_y (y_fieldA 0 Try.underlying97 rfl sz94 rfl rfl rfl) rfl ?_
          refine L_y (y_ldc Try.underlying94 rfl rfl (((S9.blk 4 rfl).cell _).trans (idxG_row _ _ _ _ _))) rfl ?_
          refine L_y (y_len Try.underlying94 rfl) rfl ?_
          refine L_y (y_move rfl) rfl ?_
          refine L_nil ?_
          refine hK18 _ _ ?_
          refine T_block ?_
          refine T_loop1 [(5, _), (6, _), (7, _), (9, _), (51, _)] (fun (k : Nat) => [(52, .int .i64 (k : Int))]) (fun (k : Nat) => n - k) (fun (k : Nat) (w : World) => k ≤ n ∧ Zx.St w0 noM [blk b1 95 (arrG (fun c => (b4 (b.drop 8) (4 * c) : Int)) 0).toArray, rdr g A (m - 8) c (b.drop 8) (1024 + 32 * n + 4 * k) 0, blk b3 95 (arrG (fun c => (b4 (b.drop 8) (4 * c) : Int)) 256).toArray, Zx.row 119 34 (some ⟨b7, 0, none⟩) n n ((rowsP (b.drop 8) n n k 0).flatMap rowf), blk b8 97 (idxG (some ⟨b7, 0, none⟩) n n (List.replicate 256 (.int .i64 0)) zI).toArray] w) 0 (Sub.cons rfl (by first | rfl | exact congrArg (Value.int _) (by omega)) (Sub.nil _)) (Sub.cons rfl rfl (Sub.cons rfl rfl (Sub.cons rfl rfl (Sub.cons rfl rfl (Sub.cons rfl rfl (Sub.nil _)))))) ?_ ?_
          ·
            exact ⟨by omega, S9⟩
          ·
            intro k w13 hrel
            obtain ⟨hk, S13⟩ := hrel
            refine T_seq fun K19 hK19 => ?_
            refine T_region ?_
            refine L_y (y_lss rfl rfl) rfl ?_
            refine L_nil ?_
            refine hK19 _ _ ?_
            refine T_seq fun K20 hK20 => ?_
            refine T_cond rfl (fun h53 => ?_) (fun h53 => ?_)
            ·
              obtain ⟨x, hx⟩ : ∃ x, (rowsP (b.drop 8) n n k 0)[k]? = some x := ⟨_, List.getElem?_eq_getElem (by rw [rowsP_len]; omega)⟩
              refine T_skip ?_
              refine hK20 _ _ ?_
              refine T_seq fun K21 hK21 => ?_
              refine T_block ?_
              refine T_seq fun K22 hK22 => ?_
              refine T_region ?_
              refine L_y (y_move rfl) rfl ?_
              refine L_y (y_assign rfl) rfl ?_
              refine L_nil ?_
              refine hK22 _ _ ?_
              refine T_drawnX (fun w => Blk w b8 97 (idxG (some ⟨b7, 0, none⟩) n n (List.replicate 256 (.int .i64 0)) zI).toArray) hmix (by kernel_rfl) (fun w l => ((S13.like l).blk 4 rfl)) fun w14 l14 => ?_
              have S14 := S13.like l14
              refine DX_y 0 (by kernel_rfl) rfl (y_move rfl) rfl ?_
              refine DX_y 1 (by kernel_rfl) rfl (y_nilp rfl) rfl ?_
              refine DX_y 2 (by kernel_rfl) rfl (y_fieldA 0 Try.underlying97 rfl sz94 rfl rfl rfl) rfl ?_
              refine DX_y 3 (by kernel_rfl) rfl (y_of fun w hw => y_ldc Try.underlying94 rfl rfl ((hw.cell _).trans (idxG_row _ _ _ _ _))) rfl ?_
              refine DX_y 4 (by kernel_rfl) rfl (y_move rfl) rfl ?_
              refine DX_y 5 (by kernel_rfl) rfl (y_move rfl) rfl ?_
              refine DX_o1 6 (by kernel_rfl) rfl ?_
              refine o_call Try.func73 rfl rfl (Oct.ru32 g A (m - 8) c (b.drop 8) (1024 + 32 * n + 4 * k) 0 w14 (S14.get 1 rfl) (by omega) (by omega)) rfl rfl ?_
              rintro e15 w15 ⟨v15, rfl, rfl, T15⟩
              refine ⟨_, rfl, ?_⟩
              have S15 := S14.turn 1 rfl T15
              obtain ⟨e1, e2, e3⟩ := rw_ok (l := b.drop 8) (p := 1024 + 32 * n + 4 * k) (k := 4) (by omega)
              rw [e2, e3] at S15
              rw [e1]
              have hb4 : Oct.be (((b.drop 8).drop (1024 + 32 * n + 4 * k)).take 4) < 4294967296 := b4_lt _ _
              rw [show 1024 + 32 * n + 4 * k + 4 = 1024 + 32 * n + 4 * (k + 1) by omega] at S15
              refine ⟨(S15.blk 4 rfl), ?_⟩
              refine DX_y 7 (by kernel_rfl) rfl (y_idx Try.underlying94 sz119 rfl rfl (S14.row 3 rfl) inferInstance (by omega)) rfl ?_
              refine DX_y 8 (by kernel_rfl) rfl (y_fieldR 32 Try.underlying119 rfl sz60 rfl rfl (S14.row 3 rfl) (by omega) rfl) rfl ?_
              refine DX_o1 9 (by kernel_rfl) rfl ?_
              refine o_strowN S15 3 rfl rfl rfl rfl sz60 (by omega) fun w16 S16 => ?_
              refine ⟨(S16.blk 4 rfl), ?_⟩
              refine DX_nil (by kernel_rfl) ?_
              refine hK21 _ _ ?_
              refine T_region ?_
              refine L_y (y_add rfl rfl (i64w (by omega))) rfl ?_
              refine L_y (y_move rfl) rfl ?_
              refine L_nil ?_
              have S91 := S16.rowc 3 rfl rfl ((flat_fld (y := { x with sm := (b4 (b.drop 8) (1024 + 32 * n + 4 * k) : Int) }) hx (by omega) (row_set32 x _)).trans (congrArg (fun q => q.flatMap rowf) (rowsP_sm (by omega) hx)))
              refine ⟨k + 1, by omega, ⟨by omega, S91⟩, ?_⟩
              exact (Sub.cons rfl (by first | rfl | exact congrArg (Value.int _) (by omega)) (Sub.cons rfl rfl (Sub.cons rfl rfl (Sub.cons rfl rfl (Sub.cons rfl rfl (Sub.cons rfl rfl (Sub.nil _)))))))
            ·
              obtain rfl : n = k := by omega
              refine T_exit ?_
              refine hK17 _ _ ?_
              refine T_seq fun K23 hK23 => ?_
              refine T_seq fun K24 hK24 => ?_
              refine T_region ?_
              refine L_y (y_move rfl) rfl ?_
              refine L_y (y_nilp rfl) rfl ?_
              refine L_y (y_fieldA 0 Try.underlying97 rfl sz94 rfl rfl rfl) rfl ?_
              refine L_y (y_ldc Try.underlying94 rfl rfl (((S13.blk 4 rfl).cell _).trans (idxG_row _ _ _ _ _))) rfl ?_
              refine L_y (y_len Try.underlying94 rfl) rfl ?_
              refine L_y (y_move rfl) rfl ?_
              refine L_nil ?_
              refine hK24 _ _ ?_
              refine T_block ?_
              refine T_loop1 [(5, _), (6, _), (7, _), (9, _), (69, _)] (fun (k : Nat) => [(70, .int .i64 (k : Int))]) (fun (k : Nat) => n - k) (fun (k : Nat) (w : World) => k ≤ n ∧ Zx.St w0 noM [blk b1 95 (arrG (fun c => (b4 (b.drop 8) (4 * c) : Int)) 0).toArray, rdr g A (m - 8) c (b.drop 8) (1024 + 36 * n + 4 * k) 0, blk b3 95 (arrG (fun c => (b4 (b.drop 8) (4 * c) : Int)) 256).toArray, Zx.row 119 34 (some ⟨b7, 0, none⟩) n n ((rowsP (b.drop 8) n n n k).flatMap rowf), blk b8 97 (idxG (some ⟨b7, 0, none⟩) n n (List.replicate 256 (.int .i64 0)) zI).toArray] w) 0 (Sub.cons rfl (by first | rfl | exact congrArg (Value.int _) (by omega)) (Sub.nil _)) (Sub.cons rfl rfl (Sub.cons rfl rfl (Sub.cons rfl rfl (Sub.cons rfl rfl (Sub.cons rfl rfl (Sub.nil _)))))) ?_ ?_
              ·
                rw [show 1024 + 32 * n + 4 * n = 1024 + 36 * n + 4 * 0 by omega] at S13
                exact ⟨by omega, S13⟩
              ·
                intro k w17 hrel
                obtain ⟨hk, S17⟩ := hrel
                refine T_seq fun K25 hK25 => ?_
                refine T_region ?_
                refine L_y (y_lss rfl rfl) rfl ?_
                refine L_nil ?_
                refine hK25 _ _ ?_
                refine T_seq fun K26 hK26 => ?_
                refine T_cond rfl (fun h71 => ?_) (fun h71 => ?_)
                ·
                  obtain ⟨x, hx⟩ : ∃ x, (rowsP (b.drop 8) n n n k)[k]? = some x := ⟨_, List.getElem?_eq_getElem (by rw [rowsP_len]; omega)⟩
                  refine T_skip ?_
                  refine hK26 _ _ ?_
                  refine T_seq fun K27 hK27 => ?_
                  refine T_block ?_
                  refine T_seq fun K28 hK28 => ?_
                  refine T_region ?_
                  refine L_y (y_move rfl) rfl ?_
                  refine L_y (y_assign rfl) rfl ?_
                  refine L_nil ?_
                  refine hK28 _ _ ?_
                  refine T_drawnX (fun w => Blk w b8 97 (idxG (some ⟨b7, 0, none⟩) n n (List.replicate 256 (.int .i64 0)) zI).toArray) hmix (by kernel_rfl) (fun w l => ((S17.like l).blk 4 rfl)) fun w18 l18 => ?_
                  have S18 := S17.like l18
                  refine DX_y 0 (by kernel_rfl) rfl (y_move rfl) rfl ?_
                  refine DX_y 1 (by kernel_rfl) rfl (y_nilp rfl) rfl ?_
                  refine DX_y 2 (by kernel_rfl) rfl (y_fieldA 0 Try.underlying97 rfl sz94 rfl rfl rfl) rfl ?_
                  refine DX_y 3 (by kernel_rfl) rfl (y_of fun w hw => y_ldc Try.underlying94 rfl rfl ((hw.cell _).trans (idxG_row _ _ _ _ _))) rfl ?_
                  refine DX_y 4 (by kernel_rfl) rfl (y_move rfl) rfl ?_
                  refine DX_y 5 (by kernel_rfl) rfl (y_move rfl) rfl ?_
                  refine DX_o1 6 (by kernel_rfl) rfl ?_
                  refine o_call Try.func73 rfl rfl (Oct.ru32 g A (m - 8) c (b.drop 8) (1024 + 36 * n + 4 * k) 0 w18 (S18.get 1 rfl) (by omega) (by omega)) rfl rfl ?_
                  rintro e19 w19 ⟨v19, rfl, rfl, T19⟩
                  refine ⟨_, rfl, ?_⟩
                  have S19 := S18.turn 1 rfl T19
                  obtain ⟨e1, e2, e3⟩ := rw_ok (l := b.drop 8) (p := 1024 + 36 * n + 4 * k) (k := 4) (by omega)
                  rw [e2, e3] at S19
                  rw [e1]
                  have hb4 : Oct.be (((b.drop 8).drop (1024 + 36 * n + 4 * k)).take 4) < 4294967296 := b4_lt _ _
                  rw [show 1024 + 36 * n + 4 * k + 4 = 1024 + 36 * n + 4 * (k + 1) by omega] at S19
                  refine ⟨(S19.blk 4 rfl), ?_⟩
                  refine DX_y 7 (by kernel_rfl) rfl (y_conv is60 Try.underlying3 rfl (i64w (by omega))) rfl ?_
                  refine DX_y 8 (by kernel_rfl) rfl (y_idx Try.underlying94 sz119 rfl rfl (S18.row 3 rfl) inferInstance (by omega)) rfl ?_
                  refine DX_y 9 (by kernel_rfl) rfl (y_fieldR 33 Try.underlying119 rfl sz3 rfl rfl (S18.row 3 rfl) (by omega) rfl) rfl ?_
                  refine DX_o1 10 (by kernel_rfl) rfl ?_
                  refine o_strowN S19 3 rfl rfl rfl rfl sz3 (by omega) fun w20 S20 => ?_
                  refine ⟨(S20.blk 4 rfl), ?_⟩
                  refine DX_nil (by kernel_rfl) ?_
                  refine hK27 _ _ ?_
                  refine T_region ?_
                  refine L_y (y_add rfl rfl (i64w (by omega))) rfl ?_
                  refine L_y (y_move rfl) rfl ?_
                  refine L_nil ?_
                  have S91 := S20.rowc 3 rfl rfl ((flat_fld (y := { x with at_ := (b4 (b.drop 8) (1024 + 36 * n + 4 * k) : Int) }) hx (by omega) (row_set33 x _)).trans (congrArg (fun q => q.flatMap rowf) (rowsP_at (by omega) hx)))
                  refine ⟨k + 1, by omega, ⟨by omega, S91⟩, ?_⟩
                  exact (Sub.cons rfl (by first | rfl | exact congrArg (Value.int _) (by omega)) (Sub.cons rfl rfl (Sub.cons rfl rfl (Sub.cons rfl rfl (Sub.cons rfl rfl (Sub.cons rfl rfl (Sub.nil _)))))))
                ·
                  obtain rfl : n = k := by omega
                  rw [show 1024 + 36 * n + 4 * n = 1024 + 40 * n by omega] at S17
                  refine T_exit ?_
                  refine hK23 _ _ ?_
                  refine T_seq fun K29 hK29 => ?_
                  refine T_region ?_
                  refine L_y (y_move rfl) rfl ?_
                  refine L_y (y_move rfl) rfl ?_
                  refine L_o (o_call Try.func119 rfl rfl (take g A (m - 8) c (b.drop 8) (1024 + 40 * n) (idAt (b.drop 8) (1024 + 40 * n)) w17 (S17.get 1 rfl) (by omega) (by omega) (idAt_l (by omega))) rfl rfl ?_)
                  rintro e21 w21 ⟨v21, rfl, T21, rfl⟩
                  refine ⟨_, rfl, ?_⟩
                  have S21 := S17.turn 1 rfl T21
                  refine L_y (y_nilp rfl) rfl ?_
                  refine L_y (y_fieldA 257 Try.underlying97 rfl sz23 rfl rfl rfl) rfl ?_
                  refine L_o (o_stR S21 4 rfl rfl rfl (by rw [List.size_toArray, idf_len]; exact sz23) (by rw [idxG_len (by simp), List.size_toArray, idf_len]; omega) (fun u hu => bL_one _ u (by rw [List.toList_toArray] at hu; exact hu)) fun w22 S22 => ?_)
                  have S90 := S22.blkc 4 rfl (idxG_of (by simp))
                  refine L_nil ?_
                  refine hK29 _ _ ?_
                  refine T_seq fun K30 hK30 => ?_
                  refine T_tail 3 hmix (by kernel_rfl) fun w23 l23 K31 hK31 => ?_
                  have S23 := S90.like l23
                  refine HL_y (y_move rfl) rfl ?_
                  refine HL_y (y_ldW Try.underlying95 rfl sz95 rfl (S23.blk 2 rfl) (said_whole _ 256 (Nat.le_refl _))) rfl ?_
                  refine HL_y (y_assign rfl) rfl ?_
                  refine HL_nil ?_
                  refine hK31 _ ?_
                  refine L_o (o_stW S23 0 rfl rfl rfl (by rw [List.size_toArray, arrG_len _ (by omega)]; exact sz95) (by rw [List.size_toArray, List.size_toArray, arrG_len _ (by omega), arrG_len _ (by omega)]) (fun u hu => arrG_one _ _ u (by rw [List.toList_toArray] at hu; exact hu)) fun w24 S24 => ?_)
                  refine L_nil ?_
                  refine hK30 _ _ ?_
                  refine T_ret ?_
                  repeat (first | with_reducible refine up_then ?_ | with_reducible refine up_in ?_)
                  refine rettc rfl rfl rfl (S24.blk 0 rfl) Try.underlying95 rfl (by rw [List.size_toArray, arrG_len _ (by omega)]; exact sz95) ?_
                  exact ⟨_, rfl, S24.like0, b8, _, rfl, S24.sel [3, 4] (by decide)⟩
end Go.Proofs.Ytgaklngnfecdaaa.Idx
