/-
  Pad, by the reference and by the code.
-/
import Derived.Test.YtanelemeljbbcaaFa
namespace Go.Proofs.Ytanelemeljbbcaa
open Go.RowKit Zk Zx
set_option linter.unusedVariables false
set_option linter.unusedSimpArgs false

/-- How many zeros stand behind the 128. -/
def gapR (n : Nat) : Nat := (119 - n % 64) % 64
/-- The last bytes of a number, the highest first. -/
def tl (v : Nat) : Nat → List UInt8
  | 0 => []
  | j + 1 => UInt8.ofNat (v / 256 ^ j % 256) :: tl v j
theorem length_tl (v : Nat) : ∀ j, (tl v j).length = j
  | 0 => rfl
  | j + 1 => by simp [tl, length_tl v j]
def padR (n : Nat) : List UInt8 := 128 :: List.replicate (gapR n) 0 ++ tl (n * 8 % 18446744073709551616) 8
theorem length_padR (n : Nat) : (padR n).length = 9 + gapR n := by simp [padR, length_tl]; omega


set_option maxRecDepth 10000 in
theorem refpad (n : Nat) (hn : n ≤ 18446744073709551615) (w0 : World) :
    Calls Try.prog 9 #[.int .u64 (n : Int)] w0 fun e w' => ∃ v, e = .returned v ∧ Like w0 w' ∧ ∃ A m c, v = .slice A m c ∧ w'.ownsRow w0.heap.size 5 1 (.slice A m c) m (bL (padR n)) := by
  refine enter1 (env := [(0, .int .u64 (n : Int))]) [.int .u64 (n : Int)] Try.func9 rfl Try.ntmps9 rfl rfl ?_
  have S0 := St.start w0 noM
  refine T_seq fun K1 hK1 => ?_
  refine T_region ?_
  refine L_y (y_assign rfl) rfl ?_
  refine L_nil ?_
  refine hK1 _ _ ?_
  refine T_seq fun K2 hK2 => ?_
  refine T_region ?_
  refine L_o (o_bsl [_] te23 zz5 S0 rfl rfl rfl rfl rfl rfl rfl rfl fun b1 w1 S1 => ?_)
  refine L_y (y_assign rfl) rfl ?_
  refine L_nil ?_
  refine hK2 _ _ ?_
  refine T_seq fun K3 hK3 => ?_
  refine T_block ?_
  refine T_loop3 [(0, _)] (fun (k : Nat) (A : Option Addr) (c : Nat) => [(3, .slice A (1 + k) c)]) (fun (k : Nat) (A : Option Addr) (c : Nat) => 64 - k) (fun (k : Nat) (A : Option Addr) (c : Nat) (w : World) => k ≤ gapR n ∧ St w0 noM [row 5 1 A (1 + k) c (bL (128 :: List.replicate k 0))] w) 0 _ 1 (Sub.cons rfl (by first | rfl | exact congrArg (Value.int _) (by omega)) (Sub.nil _)) (Sub.cons rfl rfl (Sub.nil _)) ?_ ?_
  ·
    exact ⟨Nat.zero_le _, S1⟩
  ·
    intro k A c w2 hrel
    obtain ⟨hk, S2⟩ := hrel
    have hg : gapR n ≤ 63 := by unfold gapR; omega
    refine T_seq fun K4 hK4 => ?_
    refine T_seq fun K5 hK5 => ?_
    refine T_region ?_
    refine L_y (y_move rfl) rfl ?_
    refine L_y (y_rem rfl rfl (by omega) (remI (by omega))) rfl ?_
    refine L_y (y_move rfl) rfl ?_
    refine L_y (y_len Try.underlying23 rfl) rfl ?_
    refine L_y (y_conv is3 Try.underlying22 rfl (u64w (by omega))) rfl ?_
    refine L_y (y_add rfl rfl (u64w (by omega))) rfl ?_
    refine L_y (y_add rfl rfl (u64w (by omega))) rfl ?_
    refine L_y (y_rem rfl rfl (by omega) (remI (by omega))) rfl ?_
    refine L_y (y_neq rfl rfl) rfl ?_
    refine L_nil ?_
    refine hK5 _ _ ?_
    refine T_cond rfl (fun h16 => ?_) (fun h16 => ?_)
    ·
      refine T_skip ?_
      refine hK4 _ _ ?_
      refine T_block ?_
      refine T_region ?_
      refine L_y (y_move rfl) rfl ?_
      refine L_o (o_bsl [_] te23 zz5 S2 rfl rfl rfl rfl rfl rfl rfl rfl fun b3 w3 S3 => ?_)
      refine L_o (o_app te23 S3 0 rfl rfl rfl (by first | exact S3.row 0 rfl | exact S3.row 1 rfl) (by first | exact bL_one _ | exact iL_one _ | (intro u hu; simp at hu; subst hu; rfl) | (simp; done) | (simp [Value.oneCell']; done)) rfl (by omega) (by omega) fun A4 c4 w4 S4 => ?_)
      have S4d := S4.drop (rs' := [_]) (.cons_cons _ (.cons _ (.refl _)))
      refine L_y (y_assign rfl) rfl ?_
      refine L_nil ?_
      have hk1 : k + 1 ≤ gapR n := by unfold gapR at hk ⊢; omega
      have S9 := S4d.rowc 0 rfl (n' := 1 + (k + 1)) (xs' := bL (128 :: List.replicate (k + 1) 0)) rfl (by simp [bL, bV, List.replicate_succ'])
      refine ⟨k + 1, _, _, by omega, ⟨hk1, S9⟩, ?_⟩
      exact (Sub.cons rfl (by first | rfl | exact congrArg (Value.int _) (by omega)) (Sub.cons rfl rfl (Sub.nil _)))
    ·
      have hkg : k = gapR n := by unfold gapR at hk ⊢; omega
      subst hkg
      refine T_exit ?_
      refine hK3 _ _ ?_
      refine T_seq fun K6 hK6 => ?_
      have hv : ((n : Int) * 8 % 18446744073709551616) = ((n * 8 % 18446744073709551616 : Nat) : Int) := by omega
      have hvl : n * 8 % 18446744073709551616 < 18446744073709551616 := Nat.mod_lt _ (by omega)
      refine T_region ?_
      refine L_y (y_move rfl) rfl ?_
      refine L_y (y_mul rfl rfl (IntKind.wrap_u64 _)) rfl ?_
      refine L_y (y_assign rfl) rfl ?_
      refine L_nil ?_
      refine hK6 _ _ ?_
      refine T_seq fun K7 hK7 => ?_
      refine T_region ?_
      refine L_y (y_assign rfl) rfl ?_
      refine L_nil ?_
      refine hK7 _ _ ?_
      refine T_seq fun K8 hK8 => ?_
      refine T_seq fun K9 hK9 => ?_
      refine T_region ?_
      refine L_y (y_assign rfl) rfl ?_
      refine L_nil ?_
      refine hK9 _ _ ?_
      refine T_block ?_
      refine T_loop3 [(3, _)] (fun (j : Nat) (A2 : Option Addr) (c2 : Nat) => [(4, .int .u64 ((n * 8 % 18446744073709551616 / 256 ^ j : Nat) : Int)), (5, .slice A2 j c2), (6, .int .i64 (j : Int))]) (fun (j : Nat) (A2 : Option Addr) (c2 : Nat) => 8 - j) (fun (j : Nat) (A2 : Option Addr) (c2 : Nat) (w : World) => j ≤ 8 ∧ St w0 noM [row 5 1 A (1 + gapR n) c (bL (128 :: List.replicate (gapR n) 0)), row 5 1 A2 j c2 (bL (tl (n * 8 % 18446744073709551616) j))] w) 0 none 0 (Sub.cons rfl (by first | rfl | exact congrArg (Value.int _) (by simp)) (Sub.cons rfl (by first | rfl | exact congrArg (Value.int _) (by simp)) (Sub.cons rfl (by first | rfl | exact congrArg (Value.int _) (by simp)) (Sub.nil _)))) (Sub.cons rfl rfl (Sub.nil _)) ?_ ?_
      ·
        exact ⟨Nat.zero_le _, S2.nilrow 5 1⟩
      ·
        intro j A2 c2 w5 hrel
        obtain ⟨hj, S5⟩ := hrel
        have hq : n * 8 % 18446744073709551616 / 256 ^ j ≤ 18446744073709551615 := Nat.le_trans (Nat.div_le_self _ _) (by omega)
        generalize hvj : n * 8 % 18446744073709551616 / 256 ^ j = vj at *
        refine T_seq fun K10 hK10 => ?_
        refine T_seq fun K11 hK11 => ?_
        refine T_region ?_
        refine L_y (y_move rfl) rfl ?_
        refine L_y (y_lss rfl rfl) rfl ?_
        refine L_nil ?_
        refine hK11 _ _ ?_
        refine T_cond rfl (fun h23 => ?_) (fun h23 => ?_)
        ·
          refine T_skip ?_
          refine hK10 _ _ ?_
          refine T_seq fun K12 hK12 => ?_
          refine T_block ?_
          refine T_seq fun K13 hK13 => ?_
          refine T_region ?_
          refine L_y (y_move rfl) rfl ?_
          refine L_y (y_rem rfl rfl (by omega) (remI (by omega))) rfl ?_
          refine L_y (y_conv is22 Try.underlying5 rfl (IntKind.wrap_u8 _)) rfl ?_
          refine L_o (o_bsl [_] te23 zz5 S5 rfl rfl rfl rfl rfl rfl rfl rfl fun b6 w6 S6 => ?_)
          refine L_y (y_move rfl) rfl ?_
          refine L_o (o_app te23 S6 2 rfl rfl rfl (by first | exact S6.row 0 rfl | exact S6.row 1 rfl | exact S6.row 2 rfl) (by first | exact bL_one _ | exact iL_one _ | (intro u hu; simp at hu; subst hu; rfl) | (simp; done) | (simp [Value.oneCell']; done)) rfl (by omega) (by omega) fun A7 c7 w7 S7 => ?_)
          refine L_y (y_assign rfl) rfl ?_
          refine L_nil ?_
          refine hK13 _ _ ?_
          refine T_region ?_
          refine L_y (y_move rfl) rfl ?_
          refine L_y (y_quo rfl rfl (by omega) (quoU (by omega) (by omega))) rfl ?_
          refine L_y (y_assign rfl) rfl ?_
          refine L_nil ?_
          refine hK12 _ _ ?_
          refine T_region ?_
          refine L_y (y_move rfl) rfl ?_
          refine L_y (y_add rfl rfl (i64w (by omega))) rfl ?_
          refine L_y (y_assign rfl) rfl ?_
          refine L_nil ?_
          have Std := S7.drop (rs' := [_, _]) (.cons_cons _ (.cons _ (.refl _)))
          have e8 : Value.int .u8 ((vj : Int) % 256 % 256) = bV (UInt8.ofNat (n * 8 % 18446744073709551616 / 256 ^ j % 256)) := by rw [hvj]; exact congrArg (Value.int _) (by rw [UInt8.toNat_ofNat']; omega)
          have S9 := Std.rowc 1 rfl (n' := j + 1) (xs' := bL (tl (n * 8 % 18446744073709551616) (j + 1))) (Nat.add_comm _ _) (by simp [tl, bL, ← e8])
          refine ⟨j + 1, _, _, by omega, ⟨by omega, S9⟩, ?_⟩
          exact (Sub.cons rfl (congrArg (Value.int _) (by rw [Nat.pow_succ, ← Nat.div_div_eq_div_mul, hvj]; omega)) (Sub.cons rfl (by rw [Nat.add_comm]) (Sub.cons rfl (by first | rfl | exact congrArg (Value.int _) (by omega)) (Sub.cons rfl rfl (Sub.nil _)))))
        ·
          have hj8 : j = 8 := by omega
          subst hj8
          refine T_exit ?_
          refine hK8 _ _ ?_
          refine T_seq fun K14 hK14 => ?_
          refine T_region ?_
          refine L_y (y_move rfl) rfl ?_
          refine L_y (y_move rfl) rfl ?_
          refine L_o (o_app te23 S5 0 rfl rfl rfl (by first | exact S5.row 0 rfl | exact S5.row 1 rfl) (by first | exact bL_one _ | exact iL_one _ | (intro u hu; simp at hu; subst hu; rfl) | (simp; done) | (simp [Value.oneCell']; done)) rfl (by omega) (by omega) fun A8 c8 w8 S8 => ?_)
          refine L_y (y_assign rfl) rfl ?_
          refine L_nil ?_
          refine hK14 _ _ ?_
          refine T_ret ?_
          repeat (first | with_reducible refine up_then ?_ | with_reducible refine up_in ?_)
          refine ret1 rfl rfl ?_
          exact ⟨_, rfl, S8.like0, _, _, _, rfl, by have := S8.own 0 rfl; rwa [← bL_app] at this⟩


/-- The pad, its first bytes laid. -/
def padU (n i : Nat) : List UInt8 := 128 :: List.replicate (gapR n) 0 ++ (tl (n * 8 % 18446744073709551616) 8).take i ++ List.replicate (8 - i) 0
theorem padU_8 (n : Nat) : padU n 8 = padR n := by
  unfold padU padR
  rw [List.take_of_length_le (by rw [length_tl]; omega)]
  simp
theorem padU_0 (n : Nat) : bL (padU n 0) = (List.replicate (1 + gapR n + 8) (Value.int .u8 0)).set 0 (.int .u8 128) := by
  have e : 1 + gapR n + 8 = (gapR n + 8) + 1 := by omega
  rw [e, List.replicate_succ, List.set_cons_zero, List.replicate_append_replicate.symm]
  simp [padU, bL, bV]
theorem tl_get (v : Nat) : ∀ (j i : Nat), i < j → (tl v j)[i]? = some (UInt8.ofNat (v / 256 ^ (j - 1 - i) % 256))
  | j + 1, 0, _ => by simp [tl]
  | j + 1, i + 1, h => by
    simp only [tl, List.getElem?_cons_succ]
    rw [tl_get v j i (by omega), show j + 1 - 1 - (i + 1) = j - 1 - i by omega]
theorem padU_set (n i : Nat) (h : i < 8) : (bL (padU n i)).set (1 + gapR n + i) (.int .u8 ((n * 8 % 18446744073709551616 / 256 ^ (7 - i) % 256 : Nat) : Int)) = bL (padU n (i + 1)) := by
  have e : Value.int .u8 ((n * 8 % 18446744073709551616 / 256 ^ (7 - i) % 256 : Nat) : Int) = bV (UInt8.ofNat (n * 8 % 18446744073709551616 / 256 ^ (7 - i) % 256)) := congrArg (Value.int _) (by rw [UInt8.toNat_ofNat']; omega)
  rw [e]
  have e2 : 8 - i = (8 - (i + 1)) + 1 := by omega
  have hl : (128 :: List.replicate (gapR n) 0 ++ (tl (n * 8 % 18446744073709551616) 8).take i).length = 1 + gapR n + i := by simp [length_tl]; omega
  unfold padU bL
  rw [← List.map_set, List.set_append_right _ _ (by omega), hl, Nat.sub_self, e2, List.replicate_succ, List.set_cons_zero]
  rw [List.take_succ_eq_append_getElem (by rw [length_tl]; omega)]
  have h2 := tl_get (n * 8 % 18446744073709551616) 8 i h
  rw [List.getElem?_eq_getElem (by rw [length_tl]; omega)] at h2
  simp only [Option.some.injEq] at h2
  rw [h2]
  simp
theorem shr_tl (n i : Nat) (h : i < 8) : Int.fdiv ((n * 8 % 18446744073709551616 : Nat) : Int) (2 ^ (min ((56 : Int) - 8 * (i : Int)).toNat IntKind.u64.bits)) = ((n * 8 % 18446744073709551616 / 256 ^ (7 - i) : Nat) : Int) := by
  have e1 : min ((56 : Int) - 8 * (i : Int)).toNat IntKind.u64.bits = 8 * (7 - i) := by simp only [IntKind.bits]; omega
  rw [e1, Int.fdiv_eq_ediv_of_nonneg _ (Int.pow_nonneg (by omega)), Int.natCast_ediv, Int.natCast_pow, Int.pow_mul]
  rfl
theorem byte_tl (n i : Nat) : IntKind.u8.wrap ((n * 8 % 18446744073709551616 / 256 ^ (7 - i) : Nat) : Int) = ((n * 8 % 18446744073709551616 / 256 ^ (7 - i) % 256 : Nat) : Int) := by
  rw [IntKind.wrap_u8]
  omega


set_option maxRecDepth 10000 in
theorem shapad (n : Nat) (hn : n ≤ 18446744073709551615) (w0 : World) :
    Calls Try.prog 7 #[.int .u64 (n : Int)] w0 fun e w' => ∃ v, e = .returned v ∧ Like w0 w' ∧ ∃ A m c, v = .slice A m c ∧ w'.ownsRow w0.heap.size 5 1 (.slice A m c) m (bL (padR n)) := by
  refine enter1 (env := [(0, .int .u64 (n : Int))]) [.int .u64 (n : Int)] Try.func7 rfl Try.ntmps7 rfl rfl ?_
  have S0 := St.start w0 noM
  refine T_seq fun K1 hK1 => ?_
  refine T_region ?_
  refine L_y (y_assign rfl) rfl ?_
  refine L_nil ?_
  refine hK1 _ _ ?_
  refine T_seq fun K2 hK2 => ?_
  have hg : gapR n ≤ 63 := by unfold gapR; omega
  refine T_region ?_
  refine L_y (y_move rfl) rfl ?_
  refine L_y (y_add rfl rfl (IntKind.wrap_u64 _)) rfl ?_
  refine L_y (y_rem rfl rfl (by omega) (remI (by omega))) rfl ?_
  refine L_y (y_sub rfl rfl (u64w (by omega))) rfl ?_
  refine L_y (y_rem rfl rfl (by omega) (show _ = ((gapR n : Nat) : Int) by rw [remI (by omega)]; unfold gapR; omega)) rfl ?_
  refine L_y (y_assign rfl) rfl ?_
  refine L_nil ?_
  refine hK2 _ _ ?_
  refine T_seq fun K3 hK3 => ?_
  refine T_region ?_
  refine L_y (y_move rfl) rfl ?_
  refine L_y (y_add rfl rfl (u64w (by omega))) rfl ?_
  refine L_y (y_add rfl rfl (u64w (by omega))) rfl ?_
  refine L_o (o_make te23 rfl S0 rfl rfl inferInstance inferInstance rfl (by omega) (by omega) (by omega) fun b1 w1 S1 => ?_)
  refine L_y (y_assign rfl) rfl ?_
  refine L_nil ?_
  refine hK3 _ _ ?_
  refine T_seq fun K4 hK4 => ?_
  refine T_region ?_
  refine L_y (y_move rfl) rfl ?_
  refine L_y (y_idx Try.underlying23 sz5 rfl rfl (by first | exact S1.row 0 rfl) inferInstance (by omega)) rfl ?_
  refine L_o (o_strow S1 0 rfl rfl rfl rfl sz5 (by omega) fun w2 S2 => ?_)
  refine L_nil ?_
  refine hK4 _ _ ?_
  refine T_seq fun K5 hK5 => ?_
  refine T_seq fun K6 hK6 => ?_
  refine T_region ?_
  refine L_y (y_move rfl) rfl ?_
  refine L_nil ?_
  refine hK6 _ _ ?_
  refine T_block ?_
  refine T_loop1 [(0, _), (3, _), (4, _)] (fun (i : Nat) => [(17, .int .i64 (i : Int))]) (fun (i : Nat) => 8 - i) (fun (i : Nat) (w : World) => i ≤ 8 ∧ St w0 noM [row 5 1 (some ⟨b1, 0, none⟩) (1 + gapR n + 8) (1 + gapR n + 8) (bL (padU n i))] w) 0 (Sub.cons rfl (by first | rfl | exact congrArg (Value.int _) (by omega)) (Sub.nil _)) (Sub.cons rfl rfl (Sub.cons rfl rfl (Sub.cons rfl rfl (Sub.nil _)))) ?_ ?_
  ·
    exact ⟨Nat.zero_le _, S2.rowc 0 rfl rfl (padU_0 n).symm⟩
  ·
    intro i w3 hrel
    obtain ⟨hi, S3⟩ := hrel
    refine T_seq fun K7 hK7 => ?_
    refine T_region ?_
    refine L_y (y_lss rfl rfl) rfl ?_
    refine L_nil ?_
    refine hK7 _ _ ?_
    refine T_seq fun K8 hK8 => ?_
    refine T_cond rfl (fun h18 => ?_) (fun h18 => ?_)
    ·
      refine T_skip ?_
      refine hK8 _ _ ?_
      refine T_seq fun K9 hK9 => ?_
      refine T_block ?_
      refine T_seq fun K10 hK10 => ?_
      refine T_region ?_
      refine L_y (y_move rfl) rfl ?_
      refine L_y (y_assign rfl) rfl ?_
      refine L_nil ?_
      refine hK10 _ _ ?_
      refine T_region ?_
      refine L_y (y_move rfl) rfl ?_
      refine L_y (y_move rfl) rfl ?_
      refine L_y (y_conv is22 Try.underlying3 rfl (i64w (by omega))) rfl ?_
      refine L_y (y_add rfl rfl (i64w (by omega))) rfl ?_
      refine L_y (y_move rfl) rfl ?_
      refine L_y (y_add rfl rfl (i64w (by omega))) rfl ?_
      refine L_y (y_move rfl) rfl ?_
      refine L_y (y_shl rfl rfl (by omega) (show _ = ((n * 8 % 18446744073709551616 : Nat) : Int) by rw [IntKind.wrap_u64]; simp [IntKind.bits])) rfl ?_
      refine L_y (y_move rfl) rfl ?_
      refine L_y (y_mul rfl rfl (i64w (by omega))) rfl ?_
      refine L_y (y_sub rfl rfl (i64w (by omega))) rfl ?_
      refine L_y (y_conv is3 Try.underlying47 rfl (u64w (by omega))) rfl ?_
      have hshr := shr_tl n i (by omega)
      have hb8 := byte_tl n i
      refine L_y (y_shr rfl rfl (by omega) (hshr)) rfl ?_
      refine L_y (y_conv is22 Try.underlying5 rfl (hb8)) rfl ?_
      refine L_y (y_idx Try.underlying23 sz5 rfl rfl (by first | exact S3.row 0 rfl) inferInstance (by omega)) rfl ?_
      refine L_o (o_strow S3 0 rfl rfl rfl rfl sz5 (by omega) fun w4 S4 => ?_)
      refine L_nil ?_
      refine hK9 _ _ ?_
      refine T_region ?_
      refine L_y (y_add rfl rfl (i64w (by omega))) rfl ?_
      refine L_y (y_move rfl) rfl ?_
      refine L_nil ?_
      refine ⟨i + 1, by omega, ⟨by omega, S4.rowc 0 rfl rfl (padU_set n i (by omega))⟩, ?_⟩
      exact (Sub.cons rfl (by first | rfl | exact congrArg (Value.int _) (by omega)) (Sub.cons rfl rfl (Sub.cons rfl rfl (Sub.cons rfl rfl (Sub.nil _)))))
    ·
      have hi8 : i = 8 := by omega
      subst hi8
      refine T_exit ?_
      refine hK5 _ _ ?_
      refine T_seq fun K11 hK11 => ?_
      refine T_region ?_
      refine L_y (y_move rfl) rfl ?_
      refine L_y (y_assign rfl) rfl ?_
      refine L_nil ?_
      refine hK11 _ _ ?_
      refine T_ret ?_
      repeat (first | with_reducible refine up_then ?_ | with_reducible refine up_in ?_)
      refine ret1 rfl rfl ?_
      exact ⟨_, rfl, S3.like0, _, _, _, rfl, by have := S3.own 0 rfl; rwa [padU_8] at this⟩
end Go.Proofs.Ytanelemeljbbcaa
