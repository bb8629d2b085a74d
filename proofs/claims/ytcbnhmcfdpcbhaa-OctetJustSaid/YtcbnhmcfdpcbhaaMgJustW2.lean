import Derived.Test.YtcbnhmcfdpcbhaaMgJustW1
import Derived.Test.YtcbnhmcfdpcbhaaRows
import Derived.Deep.CondSized
import Derived.JoinedCond
import Derived.SizedLaws

/-
  The Reader: numbers.
-/
namespace Go.Proofs.Ytcbnhmcfdpcbhaa
open Go.RowKit Zk Zx
set_option linter.unusedVariables false
set_option linter.unusedSimpArgs false

theorem tkL_ok {l : List UInt8} {p k : Nat} (h : k ≤ l.length - p) : (tkL l p k).length = k := by rw [tkL, if_pos h, List.length_take, List.length_drop]; omega
theorem tkE_ok {l : List UInt8} {p k q : Nat} (h : k ≤ l.length - p) : tkE l p k q = q := by rw [tkE, if_pos h]
theorem tkE_no {l : List UInt8} {p k q : Nat} (h : ¬ k ≤ l.length - p) : tkE l p k q = 10 := by rw [tkE, if_neg h]
theorem tkL_no {l : List UInt8} {p k : Nat} (h : ¬ k ≤ l.length - p) : tkL l p k = [] := by rw [tkL, if_neg h]
theorem tkE_case {l : List UInt8} {p k : Nat} (h : ¬ ((tkE l p k 0 : Nat) : Int) ≠ 0) : k ≤ l.length - p := by
  by_cases hk : k ≤ l.length - p
  · exact hk
  · rw [tkE_no hk] at h
    omega
theorem tkE_caseN {l : List UInt8} {p k : Nat} (h : ((tkE l p k 0 : Nat) : Int) ≠ 0) : ¬ k ≤ l.length - p := fun hk => by
  rw [tkE_ok hk] at h
  omega
theorem tk_one {l : List UInt8} {p : Nat} (h : 1 ≤ l.length - p) : ∃ x, l[p]? = some x ∧ tkL l p 1 = [x] ∧ l.drop p = x :: l.drop (p + 1) := by
  have hp : p < l.length := by omega
  refine ⟨l[p], List.getElem?_eq_getElem hp, ?_, List.drop_eq_getElem_cons hp⟩
  rw [tkL, if_pos h, List.drop_eq_getElem_cons hp, List.take_succ_cons, List.take_zero]
/-- A number by sevens: what it is, behind how many bytes, and what is wrong. -/
def numF : List UInt8 → Nat → Nat → Nat × Nat × Nat
  | [], k, _ => (0, k, 10)
  | c :: r, k, a => if (k = 9 ∧ 1 < c.toNat) ∨ (0 < k ∧ c.toNat = 0) then (0, k + 1, 12) else if c.toNat < 128 then (a + c.toNat % 128 * 128 ^ k, k + 1, 0) else numF r (k + 1) (a + c.toNat % 128 * 128 ^ k)
set_option maxRecDepth 100000 in
theorem and127 : ∀ m : Fin 256, bits .and .u8 (m.val : Int) 127 = ((m.val % 128 : Nat) : Int) := by decide
theorem andX (x : UInt8) : bits .and .u8 (x.toNat : Int) 127 = ((x.toNat % 128 : Nat) : Int) := and127 ⟨x.toNat, x.toNat_lt⟩
theorem pow7 (k : Nat) : 128 ^ k = 2 ^ (7 * k) := by rw [show (128 : Nat) = 2 ^ 7 from rfl, ← Nat.pow_mul]
theorem pow_eight {k : Nat} (h : k ≤ 8) : 128 ^ k ≤ 72057594037927936 := by
  have := Nat.pow_le_pow_right (show 0 < 128 by decide) h
  exact this
theorem num_lt {k a x : Nat} (hk : k ≤ 9) (ha : a < 128 ^ k) (hx : x ≤ 255) (h9 : k = 9 → x ≤ 1) : x % 128 * 128 ^ k ≤ 18446744073709551615 ∧ a + x % 128 * 128 ^ k ≤ 18446744073709551615 := by
  by_cases h : k = 9
  · have h1 := h9 h
    subst h
    have h2 : x % 128 * 128 ^ 9 ≤ 1 * 128 ^ 9 := Nat.mul_le_mul_right _ (by omega)
    have h3 : (128 : Nat) ^ 9 = 9223372036854775808 := rfl
    omega
  · have h1 := pow_eight (k := k) (by omega)
    have h2 : x % 128 * 128 ^ k ≤ 127 * 128 ^ k := Nat.mul_le_mul_right _ (by omega)
    omega
theorem num_next {k a x : Nat} (ha : a < 128 ^ k) : a + x % 128 * 128 ^ k < 128 ^ (k + 1) := by
  have h2 : x % 128 * 128 ^ k ≤ 127 * 128 ^ k := Nat.mul_le_mul_right _ (by omega)
  rw [Nat.pow_succ]
  omega
theorem shl7 (x k : Nat) (hk : k ≤ 9) (h : x * 128 ^ k ≤ 18446744073709551615) : IntKind.u64.wrap ((x : Int) * 2 ^ (min ((7 : Int) * (k : Int)).toNat IntKind.u64.bits)) = ((x * 128 ^ k : Nat) : Int) := by
  have e : min ((7 : Int) * (k : Int)).toNat IntKind.u64.bits = 7 * k := by simp only [IntKind.bits]; omega
  rw [e, show (x : Int) * 2 ^ (7 * k) = ((x * 128 ^ k : Nat) : Int) by rw [pow7]; push_cast; rfl, IntKind.wrap_u64]
  omega
theorem or64 (a b : Nat) (ha : a < 18446744073709551616) (hb : b < 18446744073709551616) : bits .or .u64 (a : Int) (b : Int) = ((a ||| b : Nat) : Int) := by
  have h : a ||| b < 2 ^ 64 := Nat.or_lt_two_pow ha hb
  show IntKind.u64.wrap ((((BitVec.ofInt 64 (a : Int)) ||| (BitVec.ofInt 64 (b : Int)) : BitVec 64).toNat : Nat) : Int) = _
  rw [BitVec.ofInt_natCast, BitVec.ofInt_natCast, BitVec.toNat_or, BitVec.toNat_ofNat, BitVec.toNat_ofNat]
  rw [Nat.mod_eq_of_lt (by omega), Nat.mod_eq_of_lt (by omega), IntKind.wrap_u64]
  omega
theorem or7 (a y k : Nat) (ha : a < 128 ^ k) (h : a + y * 128 ^ k ≤ 18446744073709551615) : bits .or .u64 (a : Int) ((y * 128 ^ k : Nat) : Int) = ((a + y * 128 ^ k : Nat) : Int) := by
  rw [or64 _ _ (by omega) (by omega), Nat.or_comm, pow7, Nat.mul_comm, ← Nat.two_pow_add_eq_or_of_lt (by rw [← pow7]; exact ha), Nat.add_comm]
theorem Rdd.turned {w w' : World} {g n c p q p' q' : Nat} {A : Option Addr} {l : List UInt8} (h : Turned w w' (rdr g A n c l p q) (rdr g A n c l p' q')) {p2 q2 : Nat} (hp : p' = p2) (hq : q' = q2) : Turned w w' (rdr g A n c l p q) (rdr g A n c l p2 q2) := by
  subst hp
  subst hq
  exact h


theorem split1 {w0 w : World} {M : Nat → Prop} {r s : Res} (S : St w0 M [both r s] w) (hap : ∀ i, r.dom i → ¬ s.dom i) : St w0 M [r, s] w :=
  ⟨S.os, S.tape, S.output, S.size, S.old, fun q hq => by
    have h1 := S.res _ List.mem_cons_self
    rcases List.mem_cons.1 hq with rfl | hq
    · exact ⟨h1.1.1, fun i hi => h1.2 i (.inl hi)⟩
    · obtain rfl := List.mem_singleton.1 hq
      exact ⟨h1.1.2, fun i hi => h1.2 i (.inr hi)⟩, List.pairwise_cons.2 ⟨fun s' hs' => by obtain rfl := List.mem_singleton.1 hs'; exact hap, List.pairwise_singleton _ _⟩⟩
theorem Rdd.end2 {w0 w : World} {g n c p q p' q' : Nat} {A : Option Addr} {l : List UInt8} {X : Array Value} (S : St w0 (rdr g A n c l p q).dom [blk g 68 X, row 5 1 A n c (bL l)] w) (hX : X = #[.slice A n c, .int .i64 (p' : Int), .int .i64 (q' : Int)]) : Turned w0 w (rdr g A n c l p q) (rdr g A n c l p' q') :=
  Rdd.of (St.turned2 (r := blk g 68 #[.slice A n c, .int .i64 (p : Int), .int .i64 (q : Int)]) (s := row 5 1 A n c (bL l)) S 0 1 rfl rfl) hX


set_option maxRecDepth 100000 in
theorem rnumber (g : Nat) (A : Option Addr) (n c : Nat) (l : List UInt8) (p : Nat) (w0 : World) (hw : (rdr g A n c l p 0).holds w0) (hp : p ≤ l.length) (hn62 : n ≤ 4611686018427387904) :
    Calls Try.prog 38 #[.pointer (some ⟨g, 0, none⟩)] w0 fun e w' => ∃ u, e = .returned u ∧ u = .int .u64 ((numF (l.drop p) 0 0).1 : Int) ∧ Turned w0 w' (rdr g A n c l p 0) (rdr g A n c l (p + (numF (l.drop p) 0 0).2.1) (numF (l.drop p) 0 0).2.2) := by
  refine enter1 (env := [(0, .pointer (some ⟨g, 0, none⟩))]) [.pointer (some ⟨g, 0, none⟩)] Try.func38 rfl Try.ntmps38 rfl rfl ?_
  have hnl := rdr_len hw; have hnc := ownsRow_cap hw.2; have S0 := St.borrow1 (rdr g A n c l p 0) hw (rdr_lt hw)
  refine T_seq fun K1 hK1 => ?_
  refine T_region ?_
  refine L_y (y_assign rfl) rfl ?_
  refine L_nil ?_
  refine hK1 _ _ ?_
  refine T_seq fun K2 hK2 => ?_
  refine T_region ?_
  refine L_y (y_assign rfl) rfl ?_
  refine L_nil ?_
  refine hK2 _ _ ?_
  refine T_seq fun K3 hK3 => ?_
  refine T_region ?_
  refine L_y (y_assign rfl) rfl ?_
  refine L_nil ?_
  refine hK3 _ _ ?_
  refine T_block ?_
  refine T_loop2 [(0, _)] (fun (k : Nat) (a : Nat) => [(3, .int .u64 (a : Int)), (4, .int .i64 (k : Int))]) (fun (k : Nat) (a : Nat) => 10 - k) (fun (k : Nat) (a : Nat) (w : World) => ((k ≤ 9 ∧ p + k ≤ l.length ∧ a < 128 ^ k) ∧ numF (l.drop (p + k)) k a = numF (l.drop p) 0 0) ∧ St w0 (rdr g A n c l p 0).dom [rdr g A n c l (p + k) 0] w) 0 0 (Sub.cons rfl (by first | rfl | exact congrArg (Value.int _) (by omega)) (Sub.cons rfl (by first | rfl | exact congrArg (Value.int _) (by omega)) (Sub.nil _))) (Sub.cons rfl rfl (Sub.nil _)) ?_ ?_
  ·
    exact ⟨⟨⟨by omega, by omega, by decide⟩, rfl⟩, S0⟩
  ·
    intro k a w1 hrel
    obtain ⟨⟨⟨hk9, hpk, ha⟩, hN⟩, S1⟩ := hrel
    refine T_seq fun K4 hK4 => ?_
    refine T_block ?_
    refine T_seq fun K5 hK5 => ?_
    refine T_region ?_
    refine L_y (y_move rfl) rfl ?_
    refine L_o (o_call Try.func39 rfl rfl (rtake g A n c l (p + k) _ 1 w1 (S1.get 0 rfl) (by omega) (by omega) hn62) rfl rfl ?_)
    rintro e2 w2 ⟨v2, rfl, B2, d2, rfl, R2, T2⟩
    refine ⟨_, rfl, ?_⟩
    have S2 := S1.turn 0 rfl T2
    have RR := R2
    refine L_y (y_assign rfl) rfl ?_
    refine L_nil ?_
    refine hK5 _ _ ?_
    refine T_seq fun K6 hK6 => ?_
    refine T_seq fun K7 hK7 => ?_
    refine T_region ?_
    refine L_y (y_move rfl) rfl ?_
    refine L_y (y_nilp rfl) rfl ?_
    refine L_y (y_fieldA 2 Try.underlying68 rfl sz40 rfl rfl rfl) rfl ?_
    refine L_y (y_ldc Try.underlying40 rfl rfl (((S2.get 0 rfl).1.cell _).trans (by rfl))) rfl ?_
    refine L_y (y_neq rfl rfl) rfl ?_
    refine L_nil ?_
    refine hK7 _ _ ?_
    refine T_cond rfl (fun h15 => ?_) (fun h15 => ?_)
    ·
      have hk1 := tkE_caseN h15
      have hN2 : numF (l.drop p) 0 0 = (0, k, 10) := by rw [← hN, List.drop_eq_nil_of_le (by omega)]; rfl
      refine T_seq fun K8 hK8 => ?_
      refine T_region ?_
      refine L_y (y_assign rfl) rfl ?_
      refine L_nil ?_
      refine hK8 _ _ ?_
      refine T_ret ?_
      refine ur ?_
      refine ret1 rfl rfl ?_
      first | exact ⟨_, rfl, by rw [hN2]; rfl, Rdd.turned (S2.turned1 0 rfl) (by rw [hN2, tkP, if_neg hk1]) (by rw [hN2, tkE_no hk1])⟩ | exact ⟨_, rfl, by rw [hN2], Rdd.turned (S2.turned1 0 rfl) (by rw [hN2]) (by rw [hN2])⟩ | exact ⟨_, rfl, by rw [hN2]; rfl, by rw [hN2]; exact Rdd.end2 S2 rfl⟩
    ·
      have hk1 := tkE_case h15
      obtain ⟨x, hx, htk, hdr⟩ := tk_one hk1
      rw [show bL (tkL l (p + k) 1) = bL [x] from congrArg bL htk] at RR
      rw [show tkP l (p + k) 1 = p + (k + 1) by rw [tkP, if_pos hk1]; omega, tkE_ok hk1] at S2
      have hxl := x.toNat_lt
      refine T_skip ?_
      refine hK6 _ _ ?_
      refine T_seq fun K9 hK9 => ?_
      refine T_region ?_
      refine L_y (y_move rfl) rfl ?_
      refine L_y (y_idx Try.underlying25 sz5 rfl rfl (RR) inferInstance (by rw [tkL_ok hk1]; decide)) rfl ?_
      refine L_y (y_ldr Try.underlying5 rfl rfl RR (show ([bV x])[0]? = some (Value.int .u8 (x.toNat : Int)) from rfl)) rfl ?_
      refine L_y (y_assign rfl) rfl ?_
      refine L_nil ?_
      refine hK9 _ _ ?_
      refine T_seq fun K10 hK10 => ?_
      refine T_seq fun K11 hK11 => ?_
      refine T_region ?_
      refine L_y (y_move rfl) rfl ?_
      refine L_y (y_eql rfl rfl) rfl ?_
      refine L_y (y_move rfl) rfl ?_
      refine L_split 21 rfl (fun h21 => ?_) (fun h21 => ?_)
      ·
        refine L_gyes rfl rfl ?_
        refine L_y (y_move rfl) rfl ?_
        refine L_gyes rfl rfl ?_
        refine L_y (y_gtr rfl rfl) rfl ?_
        refine L_y (y_pk rfl rfl) rfl ?_
        refine L_y (y_move rfl) rfl ?_
        refine L_split 25 rfl (fun h25 => ?_) (fun h25 => ?_)
        ·
          refine L_gno rfl rfl rfl ?_
          refine L_gno rfl rfl rfl ?_
          refine L_gno rfl rfl rfl ?_
          refine L_gnu rfl rfl rfl ?_
          refine L_gnu rfl rfl rfl ?_
          refine L_gno rfl rfl rfl ?_
          refine L_y (y_pk rfl rfl) rfl ?_
          refine L_nil ?_
          refine hK11 _ _ ?_
          refine T_true rfl ?_
          refine T_seq fun K12 hK12 => ?_
          have hF : ((k = 9 ∧ 1 < x.toNat) ∨ (0 < k ∧ x.toNat = 0)) := by omega
          have hN2 : numF (l.drop p) 0 0 = (0, k + 1, 12) := by rw [← hN, hdr, numF, if_pos hF]
          refine T_region ?_
          refine L_y (y_move rfl) rfl ?_
          refine L_y (y_nilp rfl) rfl ?_
          have S5 := split1 S2 (rdr_apart (S2.get 0 rfl))
          refine L_y (y_fieldA 2 Try.underlying68 rfl sz40 rfl rfl rfl) rfl ?_
          refine L_o (o_st1 S5 0 rfl rfl rfl rfl sz40 (by simp; done) fun w6 S6 => ?_)
          refine L_nil ?_
          refine hK12 _ _ ?_
          refine T_seq fun K13 hK13 => ?_
          refine T_region ?_
          refine L_y (y_assign rfl) rfl ?_
          refine L_nil ?_
          refine hK13 _ _ ?_
          refine T_ret ?_
          refine ur ?_
          refine ret1 rfl rfl ?_
          first | exact ⟨_, rfl, by rw [hN2]; rfl, Rdd.turned (S6.turned1 0 rfl) (by rw [hN2, tkP, if_neg hk1]) (by rw [hN2, tkE_no hk1])⟩ | exact ⟨_, rfl, by rw [hN2], Rdd.turned (S6.turned1 0 rfl) (by rw [hN2]) (by rw [hN2])⟩ | exact ⟨_, rfl, by rw [hN2]; rfl, by rw [hN2]; exact Rdd.end2 S6 rfl⟩
        ·
          refine L_gyes rfl rfl ?_
          refine L_y (y_move rfl) rfl ?_
          refine L_gyes rfl rfl ?_
          refine L_y (y_gtr rfl rfl) rfl ?_
          refine L_gyes rfl rfl ?_
          refine L_y (y_move rfl) rfl ?_
          refine L_split 28 rfl (fun h28 => ?_) (fun h28 => ?_)
          ·
            refine L_gyes rfl rfl ?_
            refine L_y (y_move rfl) rfl ?_
            refine L_gyes rfl rfl ?_
            refine L_y (y_eql rfl rfl) rfl ?_
            refine L_gyes rfl rfl ?_
            refine L_y (y_pk rfl rfl) rfl ?_
            refine L_y (y_pk rfl rfl) rfl ?_
            refine L_nil ?_
            refine hK11 _ _ ?_
            refine T_cond rfl (fun h32 => ?_) (fun h32 => ?_)
            ·
              refine T_seq fun K14 hK14 => ?_
              have hF : ((k = 9 ∧ 1 < x.toNat) ∨ (0 < k ∧ x.toNat = 0)) := by omega
              have hN2 : numF (l.drop p) 0 0 = (0, k + 1, 12) := by rw [← hN, hdr, numF, if_pos hF]
              refine T_region ?_
              refine L_y (y_move rfl) rfl ?_
              refine L_y (y_nilp rfl) rfl ?_
              have S8 := split1 S2 (rdr_apart (S2.get 0 rfl))
              refine L_y (y_fieldA 2 Try.underlying68 rfl sz40 rfl rfl rfl) rfl ?_
              refine L_o (o_st1 S8 0 rfl rfl rfl rfl sz40 (by simp; done) fun w9 S9 => ?_)
              refine L_nil ?_
              refine hK14 _ _ ?_
              refine T_seq fun K15 hK15 => ?_
              refine T_region ?_
              refine L_y (y_assign rfl) rfl ?_
              refine L_nil ?_
              refine hK15 _ _ ?_
              refine T_ret ?_
              refine ur ?_
              refine ret1 rfl rfl ?_
              first | exact ⟨_, rfl, by rw [hN2]; rfl, Rdd.turned (S9.turned1 0 rfl) (by rw [hN2, tkP, if_neg hk1]) (by rw [hN2, tkE_no hk1])⟩ | exact ⟨_, rfl, by rw [hN2], Rdd.turned (S9.turned1 0 rfl) (by rw [hN2]) (by rw [hN2])⟩ | exact ⟨_, rfl, by rw [hN2]; rfl, by rw [hN2]; exact Rdd.end2 S9 rfl⟩
            ·
              refine T_skip ?_
              refine hK10 _ _ ?_
              refine T_seq fun K16 hK16 => ?_
              have hF : ¬ ((k = 9 ∧ 1 < x.toNat) ∨ (0 < k ∧ x.toNat = 0)) := by omega
              have hnm := num_lt hk9 ha (x := x.toNat) (by omega) (fun h => by omega)
              refine T_region ?_
              refine L_y (y_move rfl) rfl ?_
              refine L_y (y_move rfl) rfl ?_
              refine L_y (y_bits rfl rfl rfl (andX x)) rfl ?_
              refine L_y (y_conv is5 Try.underlying27 rfl (u64w (by omega))) rfl ?_
              refine L_y (y_move rfl) rfl ?_
              refine L_y (y_mul rfl rfl (i64w (by omega))) rfl ?_
              refine L_y (y_conv is3 Try.underlying70 rfl (u64w (by omega))) rfl ?_
              refine L_y (y_shl rfl rfl (by omega) (shl7 _ k hk9 hnm.1)) rfl ?_
              refine L_y (y_bits rfl rfl rfl (or7 a _ k ha hnm.2)) rfl ?_
              refine L_y (y_assign rfl) rfl ?_
              refine L_nil ?_
              refine hK16 _ _ ?_
              refine T_seq fun K17 hK17 => ?_
              refine T_region ?_
              refine L_y (y_move rfl) rfl ?_
              refine L_y (y_lss rfl rfl) rfl ?_
              refine L_nil ?_
              refine hK17 _ _ ?_
              refine T_cond rfl (fun h46 => ?_) (fun h46 => ?_)
              ·
                have hN2 : numF (l.drop p) 0 0 = (a + x.toNat % 128 * 128 ^ k, k + 1, 0) := by rw [← hN, hdr, numF, if_neg hF, if_pos (by omega)]
                refine T_seq fun K18 hK18 => ?_
                refine T_region ?_
                refine L_y (y_move rfl) rfl ?_
                refine L_y (y_assign rfl) rfl ?_
                refine L_nil ?_
                refine hK18 _ _ ?_
                refine T_ret ?_
                refine ur ?_
                refine ret1 rfl rfl ?_
                first | exact ⟨_, rfl, by rw [hN2]; rfl, Rdd.turned (S2.turned1 0 rfl) (by rw [hN2, tkP, if_neg hk1]) (by rw [hN2, tkE_no hk1])⟩ | exact ⟨_, rfl, by rw [hN2], Rdd.turned (S2.turned1 0 rfl) (by rw [hN2]) (by rw [hN2])⟩ | exact ⟨_, rfl, by rw [hN2]; rfl, by rw [hN2]; exact Rdd.end2 S2 rfl⟩
              ·
                refine T_skip ?_
                refine hK4 _ _ ?_
                refine T_region ?_
                refine L_y (y_move rfl) rfl ?_
                refine L_y (y_add rfl rfl (i64w (by omega))) rfl ?_
                refine L_y (y_assign rfl) rfl ?_
                refine L_nil ?_
                refine ⟨k + 1, a + x.toNat % 128 * 128 ^ k, by omega, ⟨⟨⟨by omega, by omega, num_next ha⟩, by rw [← hN, hdr, numF, if_neg hF, if_neg (by omega)]; rfl⟩, S2⟩, ?_⟩
                exact (Sub.cons rfl (by first | rfl | exact congrArg (Value.int _) (by omega)) (Sub.cons rfl (by first | rfl | exact congrArg (Value.int _) (by omega)) (Sub.cons rfl rfl (Sub.nil _))))
          ·
            refine L_gno rfl rfl rfl ?_
            refine L_gno rfl rfl rfl ?_
            refine L_gyes rfl rfl ?_
            refine L_y (y_pk rfl rfl) rfl ?_
            refine L_y (y_pk rfl rfl) rfl ?_
            refine L_nil ?_
            refine hK11 _ _ ?_
            refine T_false rfl ?_
            refine T_skip ?_
            refine hK10 _ _ ?_
            refine T_seq fun K19 hK19 => ?_
            have hF : ¬ ((k = 9 ∧ 1 < x.toNat) ∨ (0 < k ∧ x.toNat = 0)) := by omega
            have hnm := num_lt hk9 ha (x := x.toNat) (by omega) (fun h => by omega)
            refine T_region ?_
            refine L_y (y_move rfl) rfl ?_
            refine L_y (y_move rfl) rfl ?_
            refine L_y (y_bits rfl rfl rfl (andX x)) rfl ?_
            refine L_y (y_conv is5 Try.underlying27 rfl (u64w (by omega))) rfl ?_
            refine L_y (y_move rfl) rfl ?_
            refine L_y (y_mul rfl rfl (i64w (by omega))) rfl ?_
            refine L_y (y_conv is3 Try.underlying70 rfl (u64w (by omega))) rfl ?_
            refine L_y (y_shl rfl rfl (by omega) (shl7 _ k hk9 hnm.1)) rfl ?_
            refine L_y (y_bits rfl rfl rfl (or7 a _ k ha hnm.2)) rfl ?_
            refine L_y (y_assign rfl) rfl ?_
            refine L_nil ?_
            refine hK19 _ _ ?_
            refine T_seq fun K20 hK20 => ?_
            refine T_region ?_
            refine L_y (y_move rfl) rfl ?_
            refine L_y (y_lss rfl rfl) rfl ?_
            refine L_nil ?_
            refine hK20 _ _ ?_
            refine T_cond rfl (fun h46 => ?_) (fun h46 => ?_)
            ·
              have hN2 : numF (l.drop p) 0 0 = (a + x.toNat % 128 * 128 ^ k, k + 1, 0) := by rw [← hN, hdr, numF, if_neg hF, if_pos (by omega)]
              refine T_seq fun K21 hK21 => ?_
              refine T_region ?_
              refine L_y (y_move rfl) rfl ?_
              refine L_y (y_assign rfl) rfl ?_
              refine L_nil ?_
              refine hK21 _ _ ?_
              refine T_ret ?_
              refine ur ?_
              refine ret1 rfl rfl ?_
              first | exact ⟨_, rfl, by rw [hN2]; rfl, Rdd.turned (S2.turned1 0 rfl) (by rw [hN2, tkP, if_neg hk1]) (by rw [hN2, tkE_no hk1])⟩ | exact ⟨_, rfl, by rw [hN2], Rdd.turned (S2.turned1 0 rfl) (by rw [hN2]) (by rw [hN2])⟩ | exact ⟨_, rfl, by rw [hN2]; rfl, by rw [hN2]; exact Rdd.end2 S2 rfl⟩
            ·
              refine T_skip ?_
              refine hK4 _ _ ?_
              refine T_region ?_
              refine L_y (y_move rfl) rfl ?_
              refine L_y (y_add rfl rfl (i64w (by omega))) rfl ?_
              refine L_y (y_assign rfl) rfl ?_
              refine L_nil ?_
              refine ⟨k + 1, a + x.toNat % 128 * 128 ^ k, by omega, ⟨⟨⟨by omega, by omega, num_next ha⟩, by rw [← hN, hdr, numF, if_neg hF, if_neg (by omega)]; rfl⟩, S2⟩, ?_⟩
              exact (Sub.cons rfl (by first | rfl | exact congrArg (Value.int _) (by omega)) (Sub.cons rfl (by first | rfl | exact congrArg (Value.int _) (by omega)) (Sub.cons rfl rfl (Sub.nil _))))
      ·
        refine L_gno rfl rfl rfl ?_
        refine L_gno rfl rfl rfl ?_
        refine L_y (y_pk rfl rfl) rfl ?_
        refine L_y (y_move rfl) rfl ?_
        refine L_gyes rfl rfl ?_
        refine L_y (y_move rfl) rfl ?_
        refine L_gyes rfl rfl ?_
        refine L_y (y_gtr rfl rfl) rfl ?_
        refine L_gyes rfl rfl ?_
        refine L_y (y_move rfl) rfl ?_
        refine L_split 28 rfl (fun h28 => ?_) (fun h28 => ?_)
        ·
          refine L_gyes rfl rfl ?_
          refine L_y (y_move rfl) rfl ?_
          refine L_gyes rfl rfl ?_
          refine L_y (y_eql rfl rfl) rfl ?_
          refine L_gyes rfl rfl ?_
          refine L_y (y_pk rfl rfl) rfl ?_
          refine L_y (y_pk rfl rfl) rfl ?_
          refine L_nil ?_
          refine hK11 _ _ ?_
          refine T_cond rfl (fun h32 => ?_) (fun h32 => ?_)
          ·
            refine T_seq fun K22 hK22 => ?_
            have hF : ((k = 9 ∧ 1 < x.toNat) ∨ (0 < k ∧ x.toNat = 0)) := by omega
            have hN2 : numF (l.drop p) 0 0 = (0, k + 1, 12) := by rw [← hN, hdr, numF, if_pos hF]
            refine T_region ?_
            refine L_y (y_move rfl) rfl ?_
            refine L_y (y_nilp rfl) rfl ?_
            have S11 := split1 S2 (rdr_apart (S2.get 0 rfl))
            refine L_y (y_fieldA 2 Try.underlying68 rfl sz40 rfl rfl rfl) rfl ?_
            refine L_o (o_st1 S11 0 rfl rfl rfl rfl sz40 (by simp; done) fun w12 S12 => ?_)
            refine L_nil ?_
            refine hK22 _ _ ?_
            refine T_seq fun K23 hK23 => ?_
            refine T_region ?_
            refine L_y (y_assign rfl) rfl ?_
            refine L_nil ?_
            refine hK23 _ _ ?_
            refine T_ret ?_
            refine ur ?_
            refine ret1 rfl rfl ?_
            first | exact ⟨_, rfl, by rw [hN2]; rfl, Rdd.turned (S12.turned1 0 rfl) (by rw [hN2, tkP, if_neg hk1]) (by rw [hN2, tkE_no hk1])⟩ | exact ⟨_, rfl, by rw [hN2], Rdd.turned (S12.turned1 0 rfl) (by rw [hN2]) (by rw [hN2])⟩ | exact ⟨_, rfl, by rw [hN2]; rfl, by rw [hN2]; exact Rdd.end2 S12 rfl⟩
          ·
            refine T_skip ?_
            refine hK10 _ _ ?_
            refine T_seq fun K24 hK24 => ?_
            have hF : ¬ ((k = 9 ∧ 1 < x.toNat) ∨ (0 < k ∧ x.toNat = 0)) := by omega
            have hnm := num_lt hk9 ha (x := x.toNat) (by omega) (fun h => by omega)
            refine T_region ?_
            refine L_y (y_move rfl) rfl ?_
            refine L_y (y_move rfl) rfl ?_
            refine L_y (y_bits rfl rfl rfl (andX x)) rfl ?_
            refine L_y (y_conv is5 Try.underlying27 rfl (u64w (by omega))) rfl ?_
            refine L_y (y_move rfl) rfl ?_
            refine L_y (y_mul rfl rfl (i64w (by omega))) rfl ?_
            refine L_y (y_conv is3 Try.underlying70 rfl (u64w (by omega))) rfl ?_
            refine L_y (y_shl rfl rfl (by omega) (shl7 _ k hk9 hnm.1)) rfl ?_
            refine L_y (y_bits rfl rfl rfl (or7 a _ k ha hnm.2)) rfl ?_
            refine L_y (y_assign rfl) rfl ?_
            refine L_nil ?_
            refine hK24 _ _ ?_
            refine T_seq fun K25 hK25 => ?_
            refine T_region ?_
            refine L_y (y_move rfl) rfl ?_
            refine L_y (y_lss rfl rfl) rfl ?_
            refine L_nil ?_
            refine hK25 _ _ ?_
            refine T_cond rfl (fun h46 => ?_) (fun h46 => ?_)
            ·
              have hN2 : numF (l.drop p) 0 0 = (a + x.toNat % 128 * 128 ^ k, k + 1, 0) := by rw [← hN, hdr, numF, if_neg hF, if_pos (by omega)]
              refine T_seq fun K26 hK26 => ?_
              refine T_region ?_
              refine L_y (y_move rfl) rfl ?_
              refine L_y (y_assign rfl) rfl ?_
              refine L_nil ?_
              refine hK26 _ _ ?_
              refine T_ret ?_
              refine ur ?_
              refine ret1 rfl rfl ?_
              first | exact ⟨_, rfl, by rw [hN2]; rfl, Rdd.turned (S2.turned1 0 rfl) (by rw [hN2, tkP, if_neg hk1]) (by rw [hN2, tkE_no hk1])⟩ | exact ⟨_, rfl, by rw [hN2], Rdd.turned (S2.turned1 0 rfl) (by rw [hN2]) (by rw [hN2])⟩ | exact ⟨_, rfl, by rw [hN2]; rfl, by rw [hN2]; exact Rdd.end2 S2 rfl⟩
            ·
              refine T_skip ?_
              refine hK4 _ _ ?_
              refine T_region ?_
              refine L_y (y_move rfl) rfl ?_
              refine L_y (y_add rfl rfl (i64w (by omega))) rfl ?_
              refine L_y (y_assign rfl) rfl ?_
              refine L_nil ?_
              refine ⟨k + 1, a + x.toNat % 128 * 128 ^ k, by omega, ⟨⟨⟨by omega, by omega, num_next ha⟩, by rw [← hN, hdr, numF, if_neg hF, if_neg (by omega)]; rfl⟩, S2⟩, ?_⟩
              exact (Sub.cons rfl (by first | rfl | exact congrArg (Value.int _) (by omega)) (Sub.cons rfl (by first | rfl | exact congrArg (Value.int _) (by omega)) (Sub.cons rfl rfl (Sub.nil _))))
        ·
          refine L_gno rfl rfl rfl ?_
          refine L_gno rfl rfl rfl ?_
          refine L_gyes rfl rfl ?_
          refine L_y (y_pk rfl rfl) rfl ?_
          refine L_y (y_pk rfl rfl) rfl ?_
          refine L_nil ?_
          refine hK11 _ _ ?_
          refine T_false rfl ?_
          refine T_skip ?_
          refine hK10 _ _ ?_
          refine T_seq fun K27 hK27 => ?_
          have hF : ¬ ((k = 9 ∧ 1 < x.toNat) ∨ (0 < k ∧ x.toNat = 0)) := by omega
          have hnm := num_lt hk9 ha (x := x.toNat) (by omega) (fun h => by omega)
          refine T_region ?_
          refine L_y (y_move rfl) rfl ?_
          refine L_y (y_move rfl) rfl ?_
          refine L_y (y_bits rfl rfl rfl (andX x)) rfl ?_
          refine L_y (y_conv is5 Try.underlying27 rfl (u64w (by omega))) rfl ?_
          refine L_y (y_move rfl) rfl ?_
          refine L_y (y_mul rfl rfl (i64w (by omega))) rfl ?_
          refine L_y (y_conv is3 Try.underlying70 rfl (u64w (by omega))) rfl ?_
          refine L_y (y_shl rfl rfl (by omega) (shl7 _ k hk9 hnm.1)) rfl ?_
          refine L_y (y_bits rfl rfl rfl (or7 a _ k ha hnm.2)) rfl ?_
          refine L_y (y_assign rfl) rfl ?_
          refine L_nil ?_
          refine hK27 _ _ ?_
          refine T_seq fun K28 hK28 => ?_
          refine T_region ?_
          refine L_y (y_move rfl) rfl ?_
          refine L_y (y_lss rfl rfl) rfl ?_
          refine L_nil ?_
          refine hK28 _ _ ?_
          refine T_cond rfl (fun h46 => ?_) (fun h46 => ?_)
          ·
            have hN2 : numF (l.drop p) 0 0 = (a + x.toNat % 128 * 128 ^ k, k + 1, 0) := by rw [← hN, hdr, numF, if_neg hF, if_pos (by omega)]
            refine T_seq fun K29 hK29 => ?_
            refine T_region ?_
            refine L_y (y_move rfl) rfl ?_
            refine L_y (y_assign rfl) rfl ?_
            refine L_nil ?_
            refine hK29 _ _ ?_
            refine T_ret ?_
            refine ur ?_
            refine ret1 rfl rfl ?_
            first | exact ⟨_, rfl, by rw [hN2]; rfl, Rdd.turned (S2.turned1 0 rfl) (by rw [hN2, tkP, if_neg hk1]) (by rw [hN2, tkE_no hk1])⟩ | exact ⟨_, rfl, by rw [hN2], Rdd.turned (S2.turned1 0 rfl) (by rw [hN2]) (by rw [hN2])⟩ | exact ⟨_, rfl, by rw [hN2]; rfl, by rw [hN2]; exact Rdd.end2 S2 rfl⟩
          ·
            refine T_skip ?_
            refine hK4 _ _ ?_
            refine T_region ?_
            refine L_y (y_move rfl) rfl ?_
            refine L_y (y_add rfl rfl (i64w (by omega))) rfl ?_
            refine L_y (y_assign rfl) rfl ?_
            refine L_nil ?_
            refine ⟨k + 1, a + x.toNat % 128 * 128 ^ k, by omega, ⟨⟨⟨by omega, by omega, num_next ha⟩, by rw [← hN, hdr, numF, if_neg hF, if_neg (by omega)]; rfl⟩, S2⟩, ?_⟩
            exact (Sub.cons rfl (by first | rfl | exact congrArg (Value.int _) (by omega)) (Sub.cons rfl (by first | rfl | exact congrArg (Value.int _) (by omega)) (Sub.cons rfl rfl (Sub.nil _))))


theorem Rdd.join {w0 w : World} {M : Nat → Prop} {g n c p' q' : Nat} {A : Option Addr} {l : List UInt8} {X : Array Value} (S : St w0 M [blk g 68 X, row 5 1 A n c (bL l)] w) (hX : X = #[.slice A n c, .int .i64 (p' : Int), .int .i64 (q' : Int)]) : St w0 M [rdr g A n c l p' q'] w := by
  subst hX
  exact S.join
/-- What reading a number up to m gives, where it ends, and what is wrong then. -/
def vaN (l : List UInt8) (p q m : Nat) : Nat × Nat × Nat :=
  if q ≠ 0 then (0, p, q) else if (numF (l.drop p) 0 0).2.2 ≠ 0 then (0, p, (numF (l.drop p) 0 0).2.2) else if m < (numF (l.drop p) 0 0).1 then (0, p, 3) else ((numF (l.drop p) 0 0).1, p + (numF (l.drop p) 0 0).2.1, 0)


set_option maxRecDepth 100000 in
theorem rvar (g : Nat) (A : Option Addr) (n c : Nat) (l : List UInt8) (p q : Nat) (m : Nat) (w0 : World) (hw : (rdr g A n c l p q).holds w0) (hp : p ≤ l.length) (hn62 : n ≤ 4611686018427387904) :
    Calls Try.prog 16 #[.pointer (some ⟨g, 0, none⟩), .int .u64 (m : Int)] w0 fun e w' => ∃ u, e = .returned u ∧ u = .int .u64 ((vaN l p q m).1 : Int) ∧ Turned w0 w' (rdr g A n c l p q) (rdr g A n c l (vaN l p q m).2.1 (vaN l p q m).2.2) := by
  refine enterD1 (env := [(0, .pointer (some ⟨g, 0, none⟩)), (1, .int .u64 (m : Int))]) [.pointer (some ⟨g, 0, none⟩), .int .u64 (m : Int)] Try.func16 rfl Try.ntmps16 rfl rfl ?_
  have hnl := rdr_len hw; have hnc := ownsRow_cap hw.2; have S0 := St.borrow1 (rdr g A n c l p q) hw (rdr_lt hw)
  refine T_seq fun K1 hK1 => ?_
  refine T_region ?_
  refine L_y (y_assign rfl) rfl ?_
  refine L_nil ?_
  refine hK1 _ _ ?_
  refine T_seq fun K2 hK2 => ?_
  refine T_seq fun K3 hK3 => ?_
  refine T_region ?_
  refine L_y (y_move rfl) rfl ?_
  refine L_o (o_call Try.func36 rfl rfl (rdead g A n c l p _ w0 (S0.get 0 rfl) hp) rfl rfl ?_)
  rintro e1 w1 ⟨v1, rfl, l1, rfl⟩
  refine ⟨_, rfl, ?_⟩
  have S1 := S0.like l1
  refine L_nil ?_
  refine hK3 _ _ ?_
  refine T_cond rfl (fun h7 => ?_) (fun h7 => ?_)
  ·
    refine T_seq fun K4 hK4 => ?_
    refine T_region ?_
    refine L_y (y_assign rfl) rfl ?_
    refine L_nil ?_
    refine hK4 _ _ ?_
    refine T_ret ?_
    refine ur ?_
    refine retd1 rfl rfl ?_
    have hV : vaN l p q m = (0, p, q) := by rw [vaN, if_pos (by omega)]
    exact ⟨_, rfl, by rw [hV]; rfl, by rw [hV]; exact Rdd.turned (S1.turned1 0 rfl) rfl rfl⟩
  ·
    have hq : q = 0 := by omega
    subst hq
    refine T_skip ?_
    refine hK2 _ _ ?_
    refine T_seq fun K5 hK5 => ?_
    refine T_region ?_
    refine L_y (y_move rfl) rfl ?_
    refine L_y (y_move rfl) rfl ?_
    refine L_y (y_nilp rfl) rfl ?_
    refine L_y (y_fieldA 1 Try.underlying68 rfl sz3 rfl rfl rfl) rfl ?_
    refine L_y (y_ldc Try.underlying3 rfl rfl (((S1.get 0 rfl).1.cell _).trans (by rfl))) rfl ?_
    refine L_defer rfl ?_
    refine L_nil ?_
    refine hK5 _ _ ?_
    refine T_seq fun K6 hK6 => ?_
    refine T_region ?_
    refine L_y (y_move rfl) rfl ?_
    refine L_o (o_call Try.func38 rfl rfl (rnumber g A n c l p w1 (S1.get 0 rfl) hp hn62) rfl rfl ?_)
    rintro e2 w2 ⟨v2, rfl, rfl, T2⟩
    refine ⟨_, rfl, ?_⟩
    have S2 := S1.turn 0 rfl T2
    refine L_y (y_assign rfl) rfl ?_
    refine L_nil ?_
    refine hK6 _ _ ?_
    refine T_seq fun K7 hK7 => ?_
    refine T_seq fun K8 hK8 => ?_
    refine T_region ?_
    refine L_y (y_move rfl) rfl ?_
    refine L_y (y_nilp rfl) rfl ?_
    refine L_y (y_fieldA 2 Try.underlying68 rfl sz40 rfl rfl rfl) rfl ?_
    refine L_y (y_ldc Try.underlying40 rfl rfl (((S2.get 0 rfl).1.cell _).trans (by rfl))) rfl ?_
    refine L_y (y_eql rfl rfl) rfl ?_
    refine L_y (y_move rfl) rfl ?_
    refine L_split 20 rfl (fun h20 => ?_) (fun h20 => ?_)
    ·
      refine L_gyes rfl rfl ?_
      refine L_y (y_move rfl) rfl ?_
      refine L_gyes rfl rfl ?_
      refine L_y (y_move rfl) rfl ?_
      refine L_gyes rfl rfl ?_
      refine L_y (y_gtr rfl rfl) rfl ?_
      refine L_y (y_pk rfl rfl) rfl ?_
      refine L_nil ?_
      refine hK8 _ _ ?_
      refine T_cond rfl (fun h24 => ?_) (fun h24 => ?_)
      ·
        refine T_region ?_
        refine L_y (y_move rfl) rfl ?_
        refine L_y (y_nilp rfl) rfl ?_
        have S4 := split1 S2 (rdr_apart (S2.get 0 rfl))
        refine L_y (y_fieldA 2 Try.underlying68 rfl sz40 rfl rfl rfl) rfl ?_
        refine L_o (o_st1 S4 0 rfl rfl rfl rfl sz40 (by simp; done) fun w5 S5 => ?_)
        have S6 := Rdd.join S5 (q' := 3) rfl
        refine L_nil ?_
        refine hK7 _ _ ?_
        refine T_seq fun K9 hK9 => ?_
        refine T_seq fun K10 hK10 => ?_
        refine T_region ?_
        refine L_y (y_move rfl) rfl ?_
        refine L_y (y_nilp rfl) rfl ?_
        refine L_y (y_fieldA 2 Try.underlying68 rfl sz40 rfl rfl rfl) rfl ?_
        refine L_y (y_ldc Try.underlying40 rfl rfl (((S6.get 0 rfl).1.cell _).trans (by rfl))) rfl ?_
        refine L_y (y_neq rfl rfl) rfl ?_
        refine L_nil ?_
        refine hK10 _ _ ?_
        refine T_cond rfl (fun h32 => ?_) (fun h32 => ?_)
        ·
          refine T_seq fun K11 hK11 => ?_
          refine T_region ?_
          refine L_y (y_assign rfl) rfl ?_
          refine L_nil ?_
          refine hK11 _ _ ?_
          refine T_ret ?_
          refine ur ?_
          refine retD1 (f := 37) rfl rfl rfl Try.func37 rfl rfl (rback g A n c l _ _ p w5 (S6.get 0 rfl)) ?_
          rintro e7 w7 ⟨v7, rfl, T7⟩
          refine ⟨_, rfl, ?_⟩
          have S7 := S6.turn 0 rfl T7
          have hV : vaN l p 0 m = (0, p, 3) := by rw [vaN, if_neg (by omega), if_neg (by omega), if_pos (by omega)]
          exact ⟨_, rfl, by rw [hV]; rfl, by rw [hV]; exact Rdd.turned (S7.turned1 0 rfl) (if_pos (by decide)) rfl⟩
        ·
          refine T_skip ?_
          refine hK9 _ _ ?_
          refine T_seq fun K12 hK12 => ?_
          refine T_region ?_
          refine L_y (y_move rfl) rfl ?_
          refine L_y (y_assign rfl) rfl ?_
          refine L_nil ?_
          refine hK12 _ _ ?_
          refine T_ret ?_
          refine ur ?_
          refine retD1 (f := 37) rfl rfl rfl Try.func37 rfl rfl (rback g A n c l _ _ p w5 (S6.get 0 rfl)) ?_
          rintro e8 w8 ⟨v8, rfl, T8⟩
          refine ⟨_, rfl, ?_⟩
          have S8 := S6.turn 0 rfl T8
          exfalso
          omega
      ·
        refine T_skip ?_
        refine hK7 _ _ ?_
        refine T_seq fun K13 hK13 => ?_
        refine T_seq fun K14 hK14 => ?_
        refine T_region ?_
        refine L_y (y_move rfl) rfl ?_
        refine L_y (y_nilp rfl) rfl ?_
        refine L_y (y_fieldA 2 Try.underlying68 rfl sz40 rfl rfl rfl) rfl ?_
        refine L_y (y_ldc Try.underlying40 rfl rfl (((S2.get 0 rfl).1.cell _).trans (by rfl))) rfl ?_
        refine L_y (y_neq rfl rfl) rfl ?_
        refine L_nil ?_
        refine hK14 _ _ ?_
        refine T_cond rfl (fun h32 => ?_) (fun h32 => ?_)
        ·
          refine T_seq fun K15 hK15 => ?_
          refine T_region ?_
          refine L_y (y_assign rfl) rfl ?_
          refine L_nil ?_
          refine hK15 _ _ ?_
          refine T_ret ?_
          refine ur ?_
          refine retD1 (f := 37) rfl rfl rfl Try.func37 rfl rfl (rback g A n c l _ _ p w2 (S2.get 0 rfl)) ?_
          rintro e9 w9 ⟨v9, rfl, T9⟩
          refine ⟨_, rfl, ?_⟩
          have S9 := S2.turn 0 rfl T9
          exfalso
          omega
        ·
          refine T_skip ?_
          refine hK13 _ _ ?_
          refine T_seq fun K16 hK16 => ?_
          refine T_region ?_
          refine L_y (y_move rfl) rfl ?_
          refine L_y (y_assign rfl) rfl ?_
          refine L_nil ?_
          refine hK16 _ _ ?_
          refine T_ret ?_
          refine ur ?_
          refine retD1 (f := 37) rfl rfl rfl Try.func37 rfl rfl (rback g A n c l _ _ p w2 (S2.get 0 rfl)) ?_
          rintro e10 w10 ⟨v10, rfl, T10⟩
          refine ⟨_, rfl, ?_⟩
          have S10 := S2.turn 0 rfl T10
          have hV : vaN l p 0 m = ((numF (l.drop p) 0 0).1, p + (numF (l.drop p) 0 0).2.1, 0) := by rw [vaN, if_neg (by omega), if_neg (by omega), if_neg (by omega)]
          exact ⟨_, rfl, by rw [hV], by rw [hV]; exact Rdd.turned (S10.turned1 0 rfl) (if_neg (by omega)) (show (numF (l.drop p) 0 0).2.2 = 0 by omega)⟩
    ·
      refine L_gno rfl rfl rfl ?_
      refine L_gno rfl rfl rfl ?_
      refine L_gno rfl rfl rfl ?_
      refine L_y (y_pk rfl rfl) rfl ?_
      refine L_nil ?_
      refine hK8 _ _ ?_
      refine T_false rfl ?_
      refine T_skip ?_
      refine hK7 _ _ ?_
      refine T_seq fun K17 hK17 => ?_
      refine T_seq fun K18 hK18 => ?_
      refine T_region ?_
      refine L_y (y_move rfl) rfl ?_
      refine L_y (y_nilp rfl) rfl ?_
      refine L_y (y_fieldA 2 Try.underlying68 rfl sz40 rfl rfl rfl) rfl ?_
      refine L_y (y_ldc Try.underlying40 rfl rfl (((S2.get 0 rfl).1.cell _).trans (by rfl))) rfl ?_
      refine L_y (y_neq rfl rfl) rfl ?_
      refine L_nil ?_
      refine hK18 _ _ ?_
      refine T_cond rfl (fun h32 => ?_) (fun h32 => ?_)
      ·
        refine T_seq fun K19 hK19 => ?_
        refine T_region ?_
        refine L_y (y_assign rfl) rfl ?_
        refine L_nil ?_
        refine hK19 _ _ ?_
        refine T_ret ?_
        refine ur ?_
        refine retD1 (f := 37) rfl rfl rfl Try.func37 rfl rfl (rback g A n c l _ _ p w2 (S2.get 0 rfl)) ?_
        rintro e11 w11 ⟨v11, rfl, T11⟩
        refine ⟨_, rfl, ?_⟩
        have S11 := S2.turn 0 rfl T11
        have hV : vaN l p 0 m = (0, p, (numF (l.drop p) 0 0).2.2) := by rw [vaN, if_neg (by omega), if_pos (by omega)]
        exact ⟨_, rfl, by rw [hV]; rfl, by rw [hV]; exact Rdd.turned (S11.turned1 0 rfl) (if_pos (by omega)) rfl⟩
      ·
        refine T_skip ?_
        refine hK17 _ _ ?_
        refine T_seq fun K20 hK20 => ?_
        refine T_region ?_
        refine L_y (y_move rfl) rfl ?_
        refine L_y (y_assign rfl) rfl ?_
        refine L_nil ?_
        refine hK20 _ _ ?_
        refine T_ret ?_
        refine ur ?_
        refine retD1 (f := 37) rfl rfl rfl Try.func37 rfl rfl (rback g A n c l _ _ p w2 (S2.get 0 rfl)) ?_
        rintro e12 w12 ⟨v12, rfl, T12⟩
        refine ⟨_, rfl, ?_⟩
        have S12 := S2.turn 0 rfl T12
        exfalso
        omega


theorem numF_le : ∀ (r : List UInt8) (k a : Nat), (numF r k a).2.1 ≤ k + r.length
  | [], k, a => by simp [numF]
  | c :: r, k, a => by
    have h := numF_le r (k + 1) (a + c.toNat % 128 * 128 ^ k)
    unfold numF
    split
    · simp
    · split
      · simp
      · simp only [List.length_cons]
        omega
theorem numF_at (l : List UInt8) (p : Nat) (h : p ≤ l.length) : p + (numF (l.drop p) 0 0).2.1 ≤ l.length := by
  have := numF_le (l.drop p) 0 0
  rw [List.length_drop] at this
  omega
/-- What reading a text up to m gives, where it ends, and what is wrong then. -/
def txN (l : List UInt8) (p q : Nat) (m : Int) : List UInt8 × Nat × Nat :=
  if q ≠ 0 then ([], p, q) else if (numF (l.drop p) 0 0).2.2 ≠ 0 then ([], p, (numF (l.drop p) 0 0).2.2) else if m < 0 ∨ m < (numF (l.drop p) 0 0).1 then ([], p, 3)
  else if (numF (l.drop p) 0 0).1 ≤ l.length - (p + (numF (l.drop p) 0 0).2.1) then (tkL l (p + (numF (l.drop p) 0 0).2.1) (numF (l.drop p) 0 0).1, p + (numF (l.drop p) 0 0).2.1 + (numF (l.drop p) 0 0).1, 0) else ([], p, 10)
set_option maxRecDepth 100000 in
theorem rtext (g : Nat) (A : Option Addr) (n c : Nat) (l : List UInt8) (p q : Nat) (m : Int) (w0 : World) (hw : (rdr g A n c l p q).holds w0) (hp : p ≤ l.length) (hn62 : n ≤ 4611686018427387904) (hm : m ≤ 9223372036854775807) :
    Calls Try.prog 17 #[.pointer (some ⟨g, 0, none⟩), .int .i64 m] w0 fun e w' => ∃ u, e = .returned u ∧ u = .string ⟨(txN l p q m).1.toArray⟩ ∧ Turned w0 w' (rdr g A n c l p q) (rdr g A n c l (txN l p q m).2.1 (txN l p q m).2.2) := by
  refine enterD1 (env := [(0, .pointer (some ⟨g, 0, none⟩)), (1, .int .i64 m)]) [.pointer (some ⟨g, 0, none⟩), .int .i64 m] Try.func17 rfl Try.ntmps17 rfl rfl ?_
  have hnl := rdr_len hw; have hnc := ownsRow_cap hw.2; have S0 := St.borrow1 (rdr g A n c l p q) hw (rdr_lt hw)
  refine T_seq fun K1 hK1 => ?_
  refine T_region ?_
  refine L_y (y_assign rfl) rfl ?_
  refine L_nil ?_
  refine hK1 _ _ ?_
  refine T_seq fun K2 hK2 => ?_
  refine T_seq fun K3 hK3 => ?_
  refine T_region ?_
  refine L_y (y_move rfl) rfl ?_
  refine L_o (o_call Try.func36 rfl rfl (rdead g A n c l p _ w0 (S0.get 0 rfl) hp) rfl rfl ?_)
  rintro e1 w1 ⟨v1, rfl, l1, rfl⟩
  refine ⟨_, rfl, ?_⟩
  have S1 := S0.like l1
  refine L_nil ?_
  refine hK3 _ _ ?_
  refine T_cond rfl (fun h7 => ?_) (fun h7 => ?_)
  ·
    refine T_seq fun K4 hK4 => ?_
    refine T_region ?_
    refine L_y (y_assign rfl) rfl ?_
    refine L_nil ?_
    refine hK4 _ _ ?_
    refine T_ret ?_
    refine ur ?_
    refine retd1 rfl rfl ?_
    have hV : txN l p q m = ([], p, q) := by rw [txN, if_pos (by omega)]
    exact ⟨_, rfl, by rw [hV], by rw [hV]; exact Rdd.turned (S1.turned1 0 rfl) rfl rfl⟩
  ·
    have hq : q = 0 := by omega
    subst hq
    refine T_skip ?_
    refine hK2 _ _ ?_
    refine T_seq fun K5 hK5 => ?_
    refine T_region ?_
    refine L_y (y_move rfl) rfl ?_
    refine L_y (y_move rfl) rfl ?_
    refine L_y (y_nilp rfl) rfl ?_
    refine L_y (y_fieldA 1 Try.underlying68 rfl sz3 rfl rfl rfl) rfl ?_
    refine L_y (y_ldc Try.underlying3 rfl rfl (((S1.get 0 rfl).1.cell _).trans (by rfl))) rfl ?_
    refine L_defer rfl ?_
    refine L_nil ?_
    refine hK5 _ _ ?_
    refine T_seq fun K6 hK6 => ?_
    refine T_region ?_
    refine L_y (y_move rfl) rfl ?_
    refine L_o (o_call Try.func38 rfl rfl (rnumber g A n c l p w1 (S1.get 0 rfl) hp hn62) rfl rfl ?_)
    rintro e2 w2 ⟨v2, rfl, rfl, T2⟩
    refine ⟨_, rfl, ?_⟩
    have S2 := S1.turn 0 rfl T2
    have hat := numF_at l p hp
    refine L_y (y_assign rfl) rfl ?_
    refine L_nil ?_
    refine hK6 _ _ ?_
    refine T_seq fun K7 hK7 => ?_
    refine T_seq fun K8 hK8 => ?_
    refine T_region ?_
    refine L_y (y_move rfl) rfl ?_
    refine L_y (y_nilp rfl) rfl ?_
    refine L_y (y_fieldA 2 Try.underlying68 rfl sz40 rfl rfl rfl) rfl ?_
    refine L_y (y_ldc Try.underlying40 rfl rfl (((S2.get 0 rfl).1.cell _).trans (by rfl))) rfl ?_
    refine L_y (y_neq rfl rfl) rfl ?_
    refine L_nil ?_
    refine hK8 _ _ ?_
    refine T_cond rfl (fun h19 => ?_) (fun h19 => ?_)
    ·
      refine T_seq fun K9 hK9 => ?_
      refine T_region ?_
      refine L_y (y_assign rfl) rfl ?_
      refine L_nil ?_
      refine hK9 _ _ ?_
      refine T_ret ?_
      refine ur ?_
      refine retD1 (f := 37) rfl rfl rfl Try.func37 rfl rfl (rback g A n c l _ _ p w2 (S2.get 0 rfl)) ?_
      rintro e3 w3 ⟨v3, rfl, T3⟩
      refine ⟨_, rfl, ?_⟩
      have S3 := S2.turn 0 rfl T3
      have hV : txN l p 0 m = ([], p, (numF (l.drop p) 0 0).2.2) := by rw [txN, if_neg (by omega), if_pos (by omega)]
      exact ⟨_, rfl, by rw [hV], by rw [hV]; exact Rdd.turned (S3.turned1 0 rfl) (if_pos (by omega)) rfl⟩
    ·
      refine T_skip ?_
      refine hK7 _ _ ?_
      refine T_seq fun K10 hK10 => ?_
      refine T_seq fun K11 hK11 => ?_
      refine T_region ?_
      refine L_y (y_move rfl) rfl ?_
      refine L_y (y_lss rfl rfl) rfl ?_
      refine L_y (y_move rfl) rfl ?_
      refine L_split 22 rfl (fun h22 => ?_) (fun h22 => ?_)
      ·
        refine L_gno rfl rfl rfl ?_
        refine L_gno rfl rfl rfl ?_
        refine L_gno rfl rfl rfl ?_
        refine L_gno rfl rfl rfl ?_
        refine L_y (y_pk rfl rfl) rfl ?_
        refine L_nil ?_
        refine hK11 _ _ ?_
        refine T_true rfl ?_
        refine T_seq fun K12 hK12 => ?_
        refine T_region ?_
        refine L_y (y_move rfl) rfl ?_
        refine L_y (y_nilp rfl) rfl ?_
        have S5 := split1 S2 (rdr_apart (S2.get 0 rfl))
        refine L_y (y_fieldA 2 Try.underlying68 rfl sz40 rfl rfl rfl) rfl ?_
        refine L_o (o_st1 S5 0 rfl rfl rfl rfl sz40 (by simp; done) fun w6 S6 => ?_)
        have S7 := Rdd.join S6 (q' := 3) rfl
        refine L_nil ?_
        refine hK12 _ _ ?_
        refine T_seq fun K13 hK13 => ?_
        refine T_region ?_
        refine L_y (y_assign rfl) rfl ?_
        refine L_nil ?_
        refine hK13 _ _ ?_
        refine T_ret ?_
        refine ur ?_
        refine retD1 (f := 37) rfl rfl rfl Try.func37 rfl rfl (rback g A n c l _ _ p w6 (S7.get 0 rfl)) ?_
        rintro e8 w8 ⟨v8, rfl, T8⟩
        refine ⟨_, rfl, ?_⟩
        have S8 := S7.turn 0 rfl T8
        have hV : txN l p 0 m = ([], p, 3) := by rw [txN, if_neg (by omega), if_neg (by omega), if_pos (by omega)]
        exact ⟨_, rfl, by rw [hV], by rw [hV]; exact Rdd.turned (S8.turned1 0 rfl) (if_pos (by decide)) rfl⟩
      ·
        refine L_gyes rfl rfl ?_
        refine L_y (y_move rfl) rfl ?_
        refine L_gyes rfl rfl ?_
        refine L_y (y_move rfl) rfl ?_
        refine L_gyes rfl rfl ?_
        refine L_y (y_conv is3 Try.underlying27 rfl (u64w (by omega))) rfl ?_
        refine L_gyes rfl rfl ?_
        refine L_y (y_gtr rfl rfl) rfl ?_
        refine L_y (y_pk rfl rfl) rfl ?_
        refine L_nil ?_
        refine hK11 _ _ ?_
        refine T_cond rfl (fun h27 => ?_) (fun h27 => ?_)
        ·
          refine T_seq fun K14 hK14 => ?_
          refine T_region ?_
          refine L_y (y_move rfl) rfl ?_
          refine L_y (y_nilp rfl) rfl ?_
          have S9 := split1 S2 (rdr_apart (S2.get 0 rfl))
          refine L_y (y_fieldA 2 Try.underlying68 rfl sz40 rfl rfl rfl) rfl ?_
          refine L_o (o_st1 S9 0 rfl rfl rfl rfl sz40 (by simp; done) fun w10 S10 => ?_)
          have S11 := Rdd.join S10 (q' := 3) rfl
          refine L_nil ?_
          refine hK14 _ _ ?_
          refine T_seq fun K15 hK15 => ?_
          refine T_region ?_
          refine L_y (y_assign rfl) rfl ?_
          refine L_nil ?_
          refine hK15 _ _ ?_
          refine T_ret ?_
          refine ur ?_
          refine retD1 (f := 37) rfl rfl rfl Try.func37 rfl rfl (rback g A n c l _ _ p w10 (S11.get 0 rfl)) ?_
          rintro e12 w12 ⟨v12, rfl, T12⟩
          refine ⟨_, rfl, ?_⟩
          have S12 := S11.turn 0 rfl T12
          have hV : txN l p 0 m = ([], p, 3) := by rw [txN, if_neg (by omega), if_neg (by omega), if_pos (by omega)]
          exact ⟨_, rfl, by rw [hV], by rw [hV]; exact Rdd.turned (S12.turned1 0 rfl) (if_pos (by decide)) rfl⟩
        ·
          refine T_skip ?_
          refine hK10 _ _ ?_
          refine T_seq fun K16 hK16 => ?_
          refine T_region ?_
          refine L_y (y_move rfl) rfl ?_
          refine L_y (y_move rfl) rfl ?_
          refine L_y (y_conv is27 Try.underlying3 rfl (i64w (by omega))) rfl ?_
          refine L_o (o_call Try.func39 rfl rfl (rtake g A n c l (p + (numF (l.drop p) 0 0).2.1) _ (numF (l.drop p) 0 0).1 w2 (S2.get 0 rfl) hat (by omega) hn62) rfl rfl ?_)
          rintro e13 w13 ⟨v13, rfl, B13, d13, rfl, RR, T13⟩
          refine ⟨_, rfl, ?_⟩
          have S13 := S2.turn 0 rfl T13
          refine L_y (y_bstr Try.underlying25 Try.underlying5 Try.underlying9 rfl RR) rfl ?_
          refine L_y (y_assign rfl) rfl ?_
          refine L_nil ?_
          refine hK16 _ _ ?_
          refine T_ret ?_
          refine ur ?_
          refine retD1 (f := 37) rfl rfl rfl Try.func37 rfl rfl (rback g A n c l _ _ p w13 (S13.get 0 rfl)) ?_
          rintro e14 w14 ⟨v14, rfl, T14⟩
          refine ⟨_, rfl, ?_⟩
          have S14 := S13.turn 0 rfl T14
          by_cases hk : (numF (l.drop p) 0 0).1 ≤ l.length - (p + (numF (l.drop p) 0 0).2.1)
          · have hV : txN l p 0 m = (tkL l (p + (numF (l.drop p) 0 0).2.1) (numF (l.drop p) 0 0).1, p + (numF (l.drop p) 0 0).2.1 + (numF (l.drop p) 0 0).1, 0) := by rw [txN, if_neg (by omega), if_neg (by omega), if_neg (by omega), if_pos hk]
            have hT := S14.turned1 (k := 0) (r' := _) rfl
            rw [tkE_ok hk, tkP, if_pos hk, if_neg (by omega)] at hT
            exact ⟨_, rfl, by rw [hV], by rw [hV]; exact Rdd.turned hT rfl (show (numF (l.drop p) 0 0).2.2 = 0 by omega)⟩
          · have hV : txN l p 0 m = ([], p, 10) := by rw [txN, if_neg (by omega), if_neg (by omega), if_neg (by omega), if_neg hk]
            have hT := S14.turned1 (k := 0) (r' := _) rfl
            rw [tkE_no hk, if_pos (by decide)] at hT
            exact ⟨_, rfl, by rw [hV, tkL_no hk], by rw [hV]; exact hT⟩


end Go.Proofs.Ytcbnhmcfdpcbhaa


/-
  Numbers by sevens: what is read is what is written, and the other way round.
-/
namespace Go.Proofs.Ytcbnhmcfdpcbhaa
open Go.RowKit Zk Zx
set_option linter.unusedVariables false
theorem ofNat_toNat8 {c : UInt8} {x : Nat} (h : x = c.toNat) : UInt8.ofNat x = c := by
  subst h
  exact UInt8.ofNat_toNat
theorem triple {x : Nat × Nat × Nat} (h : x.2.2 = 0) : x = (x.1, x.2.1, 0) := Prod.ext rfl (Prod.ext rfl h)
theorem numF_vr : ∀ (r : List UInt8) (k a v j : Nat), numF r k a = (v, j, 0) → ∃ t, v = a + t * 128 ^ k ∧ k < j ∧ j ≤ k + r.length ∧ vr t = r.take (j - k) ∧ (0 < k → 0 < t)
  | [], k, a, v, j, h => by simp [numF] at h
  | c :: r, k, a, v, j, h => by
    have hc := c.toNat_lt
    rw [numF] at h
    split at h
    · simp at h
    · rename_i hF
      split at h
      · rename_i hl
        simp only [Prod.mk.injEq, and_true] at h
        refine ⟨c.toNat, by rw [← h.1, Nat.mod_eq_of_lt hl], by omega, by simp; omega, ?_, fun hk => by omega⟩
        rw [vr_low _ hl, show j - k = 1 by omega, List.take_succ_cons, List.take_zero, UInt8.ofNat_toNat]
      · rename_i hl
        obtain ⟨t, h1, h2, h3, h4, h5⟩ := numF_vr r (k + 1) _ v j h
        have h6 := h5 (by omega)
        refine ⟨c.toNat % 128 + t * 128, ?_, by omega, by simp only [List.length_cons]; omega, ?_, fun _ => by omega⟩
        · rw [h1, Nat.pow_succ, Nat.add_mul, Nat.add_assoc, Nat.mul_assoc t, Nat.mul_comm 128]
        · rw [vr_big _ (by omega), show j - k = (j - (k + 1)) + 1 by omega, List.take_succ_cons, show (c.toNat % 128 + t * 128) / 128 = t by omega, h4, ofNat_toNat8 (c := c) (by omega)]
theorem numF_max : ∀ (r : List UInt8) (k a : Nat), k ≤ 9 → a < 128 ^ k → (numF r k a).1 ≤ 18446744073709551615
  | [], k, a, hk, ha => by simp [numF]
  | c :: r, k, a, hk, ha => by
    have hc := c.toNat_lt
    rw [numF]
    split
    · simp
    · rename_i hF
      split
      · exact (num_lt hk ha (x := c.toNat) (by omega) (fun h => by omega)).2
      · exact numF_max r (k + 1) _ (by omega) (num_next ha)
theorem vaN_le (l : List UInt8) (p q m : Nat) (hp : p ≤ l.length) : (vaN l p q m).2.1 ≤ l.length := by
  unfold vaN
  have := numF_at l p hp
  repeat' split
  all_goals simp only; omega
theorem txN_le (l : List UInt8) (p q : Nat) (m : Int) (hp : p ≤ l.length) : (txN l p q m).2.1 ≤ l.length := by
  unfold txN
  have := numF_at l p hp
  repeat' split
  all_goals simp only; omega
theorem vaN_max (l : List UInt8) (p q m : Nat) : (vaN l p q m).1 ≤ 18446744073709551615 := by
  have := numF_max (l.drop p) 0 0 (by omega) (by decide)
  unfold vaN
  repeat' split
  all_goals simp only; omega
/-- What is read without an error is what writing it makes. -/
theorem just_law (l : List UInt8) (M : Nat) (m : Int) (h : (txN l (vaN l 0 0 M).2.1 (vaN l 0 0 M).2.2 m).2.2 = 0) :
    vr (vaN l 0 0 M).1 ++ (vr (txN l (vaN l 0 0 M).2.1 (vaN l 0 0 M).2.2 m).1.length ++ (txN l (vaN l 0 0 M).2.1 (vaN l 0 0 M).2.2 m).1) = l.take (txN l (vaN l 0 0 M).2.1 (vaN l 0 0 M).2.2 m).2.1 := by
  have hq : (vaN l 0 0 M).2.2 = 0 := by
    by_cases hq : (vaN l 0 0 M).2.2 = 0
    · exact hq
    · rw [txN, if_pos hq] at h
      exact absurd h hq
  have hv : vaN l 0 0 M = ((numF l 0 0).1, (numF l 0 0).2.1, 0) ∧ (numF l 0 0).2.2 = 0 := by
    unfold vaN at hq ⊢
    rw [if_neg (by omega), List.drop_zero] at hq ⊢
    split at hq
    · rename_i h1; exact absurd hq h1
    · rename_i h1
      split at hq
      · simp at hq
      · rename_i h2
        rw [if_neg h1, if_neg h2]
        exact ⟨by rw [Nat.zero_add], by omega⟩
  obtain ⟨hv, he⟩ := hv
  rw [hv] at h ⊢
  simp only at h ⊢
  obtain ⟨t, h1, h2, h3, h4, _⟩ := numF_vr l 0 0 (numF l 0 0).1 (numF l 0 0).2.1 (triple he)
  have hvt : (numF l 0 0).1 = t := by omega
  have htx : txN l (numF l 0 0).2.1 0 m = (tkL l ((numF l 0 0).2.1 + (numF (l.drop (numF l 0 0).2.1) 0 0).2.1) (numF (l.drop (numF l 0 0).2.1) 0 0).1, (numF l 0 0).2.1 + (numF (l.drop (numF l 0 0).2.1) 0 0).2.1 + (numF (l.drop (numF l 0 0).2.1) 0 0).1, 0) ∧ (numF (l.drop (numF l 0 0).2.1) 0 0).2.2 = 0 ∧ (numF (l.drop (numF l 0 0).2.1) 0 0).1 ≤ l.length - ((numF l 0 0).2.1 + (numF (l.drop (numF l 0 0).2.1) 0 0).2.1) := by
    unfold txN at h ⊢
    rw [if_neg (by omega)] at h ⊢
    split at h
    · rename_i h5; exact absurd h h5
    · rename_i h5
      split at h
      · simp at h
      · rename_i h6
        split at h
        · rename_i h7
          rw [if_neg h5, if_neg h6, if_pos h7]
          exact ⟨rfl, by omega, h7⟩
        · simp at h
  obtain ⟨htx, he2, hle⟩ := htx
  rw [htx]
  simp only
  generalize hj : (numF l 0 0).2.1 = j at *
  obtain ⟨t2, g1, g2, g3, g4, _⟩ := numF_vr (l.drop j) 0 0 (numF (l.drop j) 0 0).1 (numF (l.drop j) 0 0).2.1 (triple he2)
  generalize (numF (l.drop j) 0 0).2.1 = i at *
  generalize (numF (l.drop j) 0 0).1 = s at *
  have hs : s = t2 := by omega
  rw [tkL_ok hle, hvt, h4, hs, g4, tkL, if_pos (by omega), Nat.sub_zero, Nat.sub_zero]
  have e1 : l.take (j + i + t2) = l.take j ++ ((l.drop j).take i ++ ((l.drop j).drop i).take t2) := by
    rw [Nat.add_assoc, List.take_add, List.take_add]
  rw [e1, List.drop_drop]
end Go.Proofs.Ytcbnhmcfdpcbhaa


/-
  A law's arguments, opened: slices of elements of many cells. General; nothing here names a program.
-/
namespace Go.Proofs.Ytcbnhmcfdpcbhaa.Zx
open Go.ChangeShapes Go.WideShapes Go.ChangeAt Go.RowKit Go.Deep Zk
set_option linter.unusedVariables false
section
variable {H : Type} {enc : TypeId × Value → H} {P : Program} {w : World} {base : Nat} {spare : Nat → Bool} {held : Bool}
theorem flat_len {α : Type} (f : α → List Value) (size : Nat) (hlen : ∀ y, (f y).length = size) : ∀ l : List α, (l.flatMap f).length = l.length * size
  | [] => by simp
  | y :: l => by rw [List.flatMap_cons, List.length_append, hlen, flat_len f size hlen l, List.length_cons, Nat.succ_mul]; omega
theorem flat_get {α : Type} (f : α → List Value) (size : Nat) (hlen : ∀ y, (f y).length = size) : ∀ (l : List α) (j : Nat) (u : Value), (l.flatMap f)[j]? = some u → ∃ i y, l[i]? = some y ∧ i * size ≤ j ∧ (f y)[j - i * size]? = some u
  | [], j, u, h => by simp at h
  | y :: l, j, u, h => by
    rw [List.flatMap_cons, List.getElem?_append, hlen] at h
    split at h
    · exact ⟨0, y, rfl, by omega, by simpa using h⟩
    · obtain ⟨i, z, h1, h2, h3⟩ := flat_get f size hlen l (j - size) u h
      exact ⟨i + 1, z, by simpa using h1, by rw [Nat.succ_mul]; omega, by rw [Nat.succ_mul, show j - (i * size + size) = j - size - i * size by omega]; exact h3⟩
end
section
variable {P : Program} {env : Env} {w : World} {dst : Option Tmp} {ty : TypeId} {pos : String} {after : Array Edge} {g : Option (Nat × Bool)}
end
end Go.Proofs.Ytcbnhmcfdpcbhaa.Zx


/-
  The second form's bound: what it gives of a law's arguments. General; nothing here names a program.
-/
namespace Go.Proofs.Ytcbnhmcfdpcbhaa.Zx
open Go.ChangeShapes Go.WideShapes Go.ChangeAt Go.RowKit Go.Deep Zk
set_option linter.unusedVariables false
section
variable {H : Type} {enc : TypeId × Value → H} {P : Program} {w : World} {base : Nat} {spare : Nat → Bool} {held : Bool}
theorem flat_one {α : Type} (f : α → Value) : ∀ l : List α, l.flatMap (fun y => [f y]) = l.map f
  | [] => rfl
  | y :: l => by rw [List.flatMap_cons, flat_one f l]; rfl
end
end Go.Proofs.Ytcbnhmcfdpcbhaa.Zx


/-
  The law OctetJust.
-/
namespace Go.Proofs.Ytcbnhmcfdpcbhaa
open Go.RowKit Zk Zx
set_option linter.unusedVariables false
set_option linter.unusedSimpArgs false

theorem bsz (x : List UInt8) : (⟨x.toArray⟩ : ByteArray).size = x.length := by
  show x.toArray.size = _
  simp


set_option maxRecDepth 100000 in
theorem just (B : Option Addr) (n c : Nat) (l : List UInt8) (w0 : World) (hb : Rs w0 1 B n c (bL l)) (hn : n ≤ 140737488351232) :
    Calls Try.prog 4 #[.slice B n c] w0 fun e w' => ∃ u, e = .returned u ∧ Like w0 w' ∧ u = .bool true := by
  refine enter1 (env := [(0, .slice B n c)]) [.slice B n c] Try.func4 rfl Try.ntmps4 rfl rfl ?_
  have hln := hb.lenb; have S0 := St.start w0 noM
  refine T_seq fun K1 hK1 => ?_
  refine T_region ?_
  refine L_y (y_assign rfl) rfl ?_
  refine L_nil ?_
  refine hK1 _ _ ?_
  refine T_seq fun K2 hK2 => ?_
  refine T_region ?_
  refine L_y (y_move rfl) rfl ?_
  refine L_o (o_call Try.func15 rfl rfl (rnew B n c l w0 (S0.rd hb) (by omega)) rfl rfl ?_)
  rintro e1 w1 ⟨v1, rfl, l1, g1, A1, c1, rfl, hh1, dd1⟩
  refine ⟨_, rfl, ?_⟩
  have S1 := S0.new l1 _ hh1 dd1
  have hA1 := vaN_le l 0 0 18446744073709551615 (Nat.zero_le _)
  have hA2 := vaN_max l 0 0 18446744073709551615
  refine L_y (y_assign rfl) rfl ?_
  refine L_nil ?_
  refine hK2 _ _ ?_
  refine T_seq fun K3 hK3 => ?_
  refine T_region ?_
  refine L_y (y_move rfl) rfl ?_
  refine L_o (o_call Try.func16 rfl rfl (rvar g1 A1 n c1 l 0 0 18446744073709551615 w1 (S1.get 0 rfl) (Nat.zero_le _) (by omega)) rfl rfl ?_)
  rintro e2 w2 ⟨v2, rfl, rfl, T2⟩
  refine ⟨_, rfl, ?_⟩
  have S2 := S1.turn 0 rfl T2
  have hA3 := txN_le l (vaN l 0 0 18446744073709551615).2.1 (vaN l 0 0 18446744073709551615).2.2 1073741824 hA1
  refine L_y (y_assign rfl) rfl ?_
  refine L_nil ?_
  refine hK3 _ _ ?_
  refine T_seq fun K4 hK4 => ?_
  refine T_region ?_
  refine L_y (y_move rfl) rfl ?_
  refine L_o (o_call Try.func17 rfl rfl (rtext g1 A1 n c1 l _ _ 1073741824 w2 (S2.get 0 rfl) hA1 (by omega) (by omega)) rfl rfl ?_)
  rintro e3 w3 ⟨v3, rfl, rfl, T3⟩
  refine ⟨_, rfl, ?_⟩
  have S3 := S2.turn 0 rfl T3
  refine L_y (y_assign rfl) rfl ?_
  refine L_nil ?_
  refine hK4 _ _ ?_
  refine T_seq fun K5 hK5 => ?_
  refine T_seq fun K6 hK6 => ?_
  refine T_region ?_
  refine L_y (y_move rfl) rfl ?_
  refine L_o (o_call Try.func18 rfl rfl (rerr g1 A1 n c1 l _ _ w3 (S3.get 0 rfl) hA3) rfl rfl ?_)
  rintro e4 w4 ⟨v4, rfl, l4, rfl⟩
  refine ⟨_, rfl, ?_⟩
  have S4 := S3.like l4
  refine L_y (y_neq rfl rfl) rfl ?_
  refine L_nil ?_
  refine hK6 _ _ ?_
  refine T_cond rfl (fun h15 => ?_) (fun h15 => ?_)
  ·
    refine T_seq fun K7 hK7 => ?_
    refine T_region ?_
    refine L_y (y_move rfl) rfl ?_
    refine L_o (o_call Try.func19 rfl rfl (rleft g1 A1 n c1 l _ _ w4 (S4.get 0 rfl) hA3) rfl rfl ?_)
    rintro e5 w5 ⟨v5, rfl, l5, rfl⟩
    refine ⟨_, rfl, ?_⟩
    have S5 := S4.like l5
    refine L_y (y_move rfl) rfl ?_
    refine L_y (y_len Try.underlying25 rfl) rfl ?_
    refine L_y (y_leq rfl rfl) rfl ?_
    refine L_y (y_move rfl) rfl ?_
    refine L_split 21 rfl (fun h21 => ?_) (fun h21 => ?_)
    ·
      refine L_gyes rfl rfl ?_
      refine L_o (o_call Try.func14 rfl rfl (works w5) rfl rfl ?_)
      rintro e7 w7 ⟨v7, rfl, l7, rfl⟩
      refine ⟨_, rfl, ?_⟩
      have S7 := S5.like l7
      refine L_y (y_pk rfl rfl) rfl ?_
      refine L_y (y_assign rfl) rfl ?_
      refine L_nil ?_
      refine hK7 _ _ ?_
      refine T_ret ?_
      refine ur ?_
      refine ret1 rfl rfl ?_
      first | exact ⟨_, rfl, S7.like0, rfl⟩ | (exfalso; omega) | exact absurd hX h52
    ·
      refine L_gno rfl rfl rfl ?_
      refine L_y (y_pk rfl rfl) rfl ?_
      refine L_y (y_assign rfl) rfl ?_
      refine L_nil ?_
      refine hK7 _ _ ?_
      refine T_ret ?_
      refine ur ?_
      refine ret1 rfl rfl ?_
      first | exact ⟨_, rfl, S5.like0, rfl⟩ | (exfalso; omega) | exact absurd hX h52
  ·
    have hlaw := just_law l 18446744073709551615 1073741824 (by omega)
    have hA3n : (txN l (vaN l 0 0 18446744073709551615).2.1 (vaN l 0 0 18446744073709551615).2.2 1073741824).2.1 ≤ n := by omega
    have hcap := hb.cap
    have hL := congrArg List.length hlaw
    simp only [List.length_append, List.length_take, Nat.min_eq_left hA3] at hL
    refine T_skip ?_
    refine hK5 _ _ ?_
    refine T_seq fun K8 hK8 => ?_
    refine T_region ?_
    refine L_o (o_call Try.func8 rfl rfl (wnew w4) rfl rfl ?_)
    rintro e8 w8 ⟨v8, rfl, l8, b8, rfl, hb8, hh8⟩
    refine ⟨_, rfl, ?_⟩
    have S8 := S4.new l8 _ hh8 (wt_fresh hb8 hh8)
    have bW := b8
    refine L_y (y_assign rfl) rfl ?_
    refine L_nil ?_
    refine hK8 _ _ ?_
    refine T_seq fun K9 hK9 => ?_
    refine T_region ?_
    refine L_y (y_move rfl) rfl ?_
    refine L_y (y_move rfl) rfl ?_
    refine L_o (o_call Try.func20 rfl rfl (wvar _ _ _ _ _ _ w8 (S8.get 1 rfl) hA2 (by simp)) rfl rfl ?_)
    rintro e9 w9 ⟨v9, rfl, ⟨A9, n9, c9, T9⟩⟩
    refine ⟨_, rfl, ?_⟩
    have S9 := S8.turn 1 rfl T9
    refine L_nil ?_
    refine hK9 _ _ ?_
    refine T_seq fun K10 hK10 => ?_
    refine T_region ?_
    refine L_y (y_move rfl) rfl ?_
    refine L_y (y_move rfl) rfl ?_
    refine L_o (o_call Try.func21 rfl rfl (wtext _ _ _ _ _ _ w9 (S9.get 1 rfl) (by rw [bsz]; simp only [List.nil_append]; omega)) rfl rfl ?_)
    rintro e10 w10 ⟨v10, rfl, ⟨A10, n10, c10, T10⟩⟩
    refine ⟨_, rfl, ?_⟩
    have S10 := S9.turn 1 rfl T10
    have hW := wt_len T10.holds
    have hE : n10 = (txN l (vaN l 0 0 18446744073709551615).2.1 (vaN l 0 0 18446744073709551615).2.2 1073741824).2.1 := by rw [← hW, bsz]; simp only [List.nil_append, List.length_append]; exact hL
    have hX : [] ++ vr (vaN l 0 0 18446744073709551615).1 ++ (vr (⟨(txN l (vaN l 0 0 18446744073709551615).2.1 (vaN l 0 0 18446744073709551615).2.2 1073741824).1.toArray⟩ : ByteArray).size ++ (⟨(txN l (vaN l 0 0 18446744073709551615).2.1 (vaN l 0 0 18446744073709551615).2.2 1073741824).1.toArray⟩ : ByteArray).data.toList) = (l.drop 0).take ((txN l (vaN l 0 0 18446744073709551615).2.1 (vaN l 0 0 18446744073709551615).2.2 1073741824).2.1 - 0) := by rw [bsz]; exact hlaw
    refine L_nil ?_
    refine hK10 _ _ ?_
    refine T_seq fun K11 hK11 => ?_
    refine T_region ?_
    refine L_y (y_move rfl) rfl ?_
    refine L_o (o_call Try.func11 rfl rfl (wlen _ _ _ _ _ w10 (S10.get 1 rfl)) rfl rfl ?_)
    rintro e11 w11 ⟨v11, rfl, l11, rfl⟩
    refine ⟨_, rfl, ?_⟩
    have S11 := S10.like l11
    refine L_y (y_move rfl) rfl ?_
    refine L_o (o_call Try.func22 rfl rfl (rat g1 A1 n c1 l _ _ w11 (S11.get 0 rfl) hA3) rfl rfl ?_)
    rintro e12 w12 ⟨v12, rfl, l12, rfl⟩
    refine ⟨_, rfl, ?_⟩
    have S12 := S11.like l12
    refine L_y (y_eql rfl rfl) rfl ?_
    refine L_y (y_move rfl) rfl ?_
    refine L_split 36 rfl (fun h36 => ?_) (fun h36 => ?_)
    ·
      refine L_gyes rfl rfl ?_
      refine L_y (y_move rfl) rfl ?_
      refine L_gyes rfl rfl ?_
      refine L_o (o_call Try.func22 rfl rfl (rat g1 A1 n c1 l _ _ w12 (S12.get 0 rfl) hA3) rfl rfl ?_)
      rintro e14 w14 ⟨v14, rfl, l14, rfl⟩
      refine ⟨_, rfl, ?_⟩
      have S14 := S12.like l14
      refine L_gyes rfl rfl ?_
      refine L_y (y_move rfl) rfl ?_
      refine L_gyes rfl rfl ?_
      refine L_y (y_len Try.underlying25 rfl) rfl ?_
      refine L_gyes rfl rfl ?_
      refine L_y (y_leq rfl rfl) rfl ?_
      refine L_y (y_pk rfl rfl) rfl ?_
      refine L_y (y_move rfl) rfl ?_
      refine L_split 43 rfl (fun h43 => ?_) (fun h43 => ?_)
      ·
        refine L_gyes rfl rfl ?_
        refine L_y (y_move rfl) rfl ?_
        refine L_gyes rfl rfl ?_
        refine L_o (o_call Try.func13 rfl rfl (wbytes _ _ _ _ _ w14 (S14.get 1 rfl) (by omega)) rfl rfl ?_)
        rintro e16 w16 ⟨v16, rfl, l16, A16, m16, c16, rfl, O16⟩
        refine ⟨_, rfl, ?_⟩
        have S16 := S14.adopt l16 O16
        refine L_gyes rfl rfl ?_
        refine L_y (y_move rfl) rfl ?_
        refine L_gyes rfl rfl ?_
        refine L_y (y_move rfl) rfl ?_
        refine L_gyes rfl rfl ?_
        refine L_o (o_call Try.func22 rfl rfl (rat g1 A1 n c1 l _ _ w16 (S16.get 0 rfl) hA3) rfl rfl ?_)
        rintro e17 w17 ⟨v17, rfl, l17, rfl⟩
        refine ⟨_, rfl, ?_⟩
        have S17 := S16.like l17
        refine L_gyes rfl rfl ?_
        refine L_y (y_sliceH Try.underlying25 sz5 rfl rfl inferInstance (by omega)) rfl ?_
        refine L_gyes rfl rfl ?_
        refine L_o (o_call Try.func12 rfl rfl (same _ _ _ _ _ _ _ _ w17 (S17.row 2 rfl) ((S17.rd hb).cutb (l := 0) (Nat.zero_le _) hA3n)) rfl rfl ?_)
        rintro e18 w18 ⟨v18, rfl, l18, rfl⟩
        refine ⟨_, rfl, ?_⟩
        have S18 := S17.like l18
        refine L_y (y_pk rfl rfl) rfl ?_
        refine L_y (y_move rfl) rfl ?_
        refine L_split 52 rfl (fun h52 => ?_) (fun h52 => ?_)
        ·
          refine L_gyes rfl rfl ?_
          refine L_o (o_call Try.func14 rfl rfl (works w18) rfl rfl ?_)
          rintro e20 w20 ⟨v20, rfl, l20, rfl⟩
          refine ⟨_, rfl, ?_⟩
          have S20 := S18.like l20
          refine L_y (y_pk rfl rfl) rfl ?_
          refine L_y (y_assign rfl) rfl ?_
          refine L_nil ?_
          refine hK11 _ _ ?_
          refine T_ret ?_
          refine ur ?_
          refine ret1 rfl rfl ?_
          first | exact ⟨_, rfl, S20.like0, rfl⟩ | (exfalso; omega) | exact absurd hX h52
        ·
          refine L_gno rfl rfl rfl ?_
          refine L_y (y_pk rfl rfl) rfl ?_
          refine L_y (y_assign rfl) rfl ?_
          refine L_nil ?_
          refine hK11 _ _ ?_
          refine T_ret ?_
          refine ur ?_
          refine ret1 rfl rfl ?_
          first | exact ⟨_, rfl, S18.like0, rfl⟩ | (exfalso; omega) | exact absurd hX h52
      ·
        refine L_gno rfl rfl rfl ?_
        refine L_gno rfl rfl rfl ?_
        refine L_gno rfl rfl rfl ?_
        refine L_gno rfl rfl rfl ?_
        refine L_gno rfl rfl rfl ?_
        refine L_gno rfl rfl rfl ?_
        refine L_gno rfl rfl rfl ?_
        refine L_y (y_pk rfl rfl) rfl ?_
        refine L_y (y_move rfl) rfl ?_
        refine L_gno rfl rfl rfl ?_
        refine L_y (y_pk rfl rfl) rfl ?_
        refine L_y (y_assign rfl) rfl ?_
        refine L_nil ?_
        refine hK11 _ _ ?_
        refine T_ret ?_
        refine ur ?_
        refine ret1 rfl rfl ?_
        first | exact ⟨_, rfl, S14.like0, rfl⟩ | (exfalso; omega) | exact absurd hX h52
    ·
      refine L_gno rfl rfl rfl ?_
      refine L_gno rfl rfl rfl ?_
      refine L_gno rfl rfl rfl ?_
      refine L_gno rfl rfl rfl ?_
      refine L_gno rfl rfl rfl ?_
      refine L_y (y_pk rfl rfl) rfl ?_
      refine L_y (y_move rfl) rfl ?_
      refine L_gno rfl rfl rfl ?_
      refine L_gno rfl rfl rfl ?_
      refine L_gno rfl rfl rfl ?_
      refine L_gno rfl rfl rfl ?_
      refine L_gno rfl rfl rfl ?_
      refine L_gno rfl rfl rfl ?_
      refine L_gno rfl rfl rfl ?_
      refine L_y (y_pk rfl rfl) rfl ?_
      refine L_y (y_move rfl) rfl ?_
      refine L_gno rfl rfl rfl ?_
      refine L_y (y_pk rfl rfl) rfl ?_
      refine L_y (y_assign rfl) rfl ?_
      refine L_nil ?_
      refine hK11 _ _ ?_
      refine T_ret ?_
      refine ur ?_
      refine ret1 rfl rfl ?_
      first | exact ⟨_, rfl, S12.like0, rfl⟩ | (exfalso; omega) | exact absurd hX h52


theorem just_small (B : Option Addr) (n c : Nat) (l : List UInt8) (w0 : World) (hb : Rs w0 1 B n c (bL l)) (hn : n ≤ 140737488351232) :
    Calls Try.prog 4 #[.slice B n c] w0 fun e w' => e = .returned (.bool true) ∧ Below w0.heap.size w0 w' :=
  (just B n c l w0 hb hn).mono fun e w' ⟨u, h1, h2, h3⟩ => by subst h3; exact ⟨h1, h2⟩
end Go.Proofs.Ytcbnhmcfdpcbhaa


/-
  A slice of elements of many cells, each with what is known of its datum; the reach of the parts. General; nothing here names a program.
-/
namespace Go.Proofs.Ytcbnhmcfdpcbhaa.Zx
open Go.ChangeShapes Go.WideShapes Go.ChangeAt Go.RowKit Go.Deep Zk
set_option linter.unusedVariables false
section
variable {H : Type} {enc : TypeId × Value → H} {P : Program} {w : World} {base : Nat} {spare : Nat → Bool} {held : Bool}
theorem read_rowNP {α : Type} (f : α → List Value) (φ : α → DataW H → Prop) (size : Nat) {t e : TypeId} (ht : P.underlying t = some (.slice e)) (hc : P.cellsOf e = size) (hpos : 0 < size) (hlen : ∀ y, (f y).length = size)
    (hread : ∀ n cs x, cs.length = size → DataW.trod enc P w base spare held n e cs = some x → ∃ y, cs = f y ∧ φ y x.1)
    {fuel : Nat} {cs : List Value} {x : DataW H × List MemPlace} (h : DataW.trod enc P w base spare held fuel t cs = some x) :
    ∃ A n c, ∃ l : List α, cs = [.slice A n c] ∧ Rs w size A n c (l.flatMap f) ∧ l.length = n ∧ (∀ y ∈ l, ∃ d : DataW H, φ y d ∧ ∀ k ∈ d.weights P e, k ∈ x.1.weights P t) ∧ (n = 0 ∨ ∃ k, n ≤ k ∧ k * P.bytesOf e ∈ x.1.weights P t) := by
  rcases open_slice ht h with ⟨rfl, rfl⟩ | ⟨a, len, cap, k, n, D, Pl, rfl, _, hl, hm, hmm, rfl, hi⟩
  · exact ⟨none, 0, 0, [], rfl, Rs.nil w size, rfl, (fun y hy => by cases hy), .inl rfl⟩
  · have hle : len ≤ k := by rw [hmm]; split <;> omega
    rw [hc] at hi
    obtain ⟨l, hll, hp⟩ := list_of (fun i (y : α) => w.cells? base (a.add (i * size)) size = some (f y) ∧ φ y (D i)) len (fun i hil => by
      obtain ⟨cs', h1, h2⟩ := hi i (by omega)
      obtain ⟨y, h3, h4⟩ := hread n cs' _ (World.cells?_some h1).2.1 h2
      exact ⟨y, by rw [← h3]; exact h1, h4⟩)
    refine ⟨some a, len, cap, l, rfl, ⟨⟨by rw [flat_len f size hlen, hll], fun h0 => ⟨a, rfl, ?_, fun j u hu => ?_⟩⟩, hl, by unfold maxLen at hm; exact hm⟩, hll, fun y hy => ?_, .inr ⟨len + (k - len), by omega, by simp [DataW.weights, ht]⟩⟩
    · obtain ⟨cs', h1, h2⟩ := hi 0 (by omega)
      have h3 := (World.cells?_some h1).2.2 0 hpos
      rw [List.getElem?_eq_getElem (by rw [(World.cells?_some h1).2.1]; exact hpos)] at h3
      have := World.block_lt_of_cell? w _ h3
      rwa [block_of_add, block_of_add] at this
    · obtain ⟨i, y, h1, h2, h3⟩ := flat_get f size hlen l j u hu
      have h4 := (World.cells?_some (hp i y h1).1).2.2 (j - i * size) (by have := (List.getElem?_eq_some_iff.1 h3).1; rwa [hlen y] at this)
      rw [Go.Deep.add_add, show i * size + (j - i * size) = j by omega, h3] at h4
      exact h4
    · obtain ⟨i, hi2, rfl⟩ := List.getElem_of_mem hy
      refine ⟨D i, (hp i _ (List.getElem?_eq_getElem hi2)).2, fun q hq => ?_⟩
      have hin : ∀ (m : List (DataW H)) (d : DataW H), d ∈ m → ∀ q ∈ d.weights P e, q ∈ DataW.weightsAll P e m := by
        intro m
        induction m with
        | nil => intro d hd; cases hd
        | cons d0 m ih =>
          intro d hd q hq
          simp only [DataW.weightsAll, List.mem_append]
          rcases List.mem_cons.1 hd with rfl | hd
          · exact .inl hq
          · exact .inr (ih d hd q hq)
      simp only [DataW.weights, ht, List.mem_cons, List.mem_append]
      refine .inr (.inl (hin _ (D i) ?_ q hq))
      exact List.mem_map.2 ⟨i, by simp; omega, rfl⟩
/-- A slice of bytes, with its reach. -/
theorem open_bytesSW {r : Reach} {b0 : Nat} {t e : TypeId} {v : Value} {d : DataW H} {p : List MemPlace} (ht : P.underlying t = some (.slice e)) (he : P.underlying e = some (.int .u8)) (hc : P.cellsOf e = 1)
    (hv : Value.okWide P w r b0 t v) (h : DataW.Trod enc P w base spare held t v d p) : ∃ A n c l, v = .slice A n c ∧ Rs w 1 A n c (bL l) ∧ (n = 0 ∨ ∃ k, n ≤ k ∧ k * P.bytesOf e ∈ d.weights P t) := by
  obtain ⟨fuel, hf⟩ := h
  obtain ⟨A, n, c, l, h1, h2, _, _, h5⟩ := read_rowNP (fun y => [bV y]) (fun _ _ => True) 1 ht hc (by decide) (fun _ => rfl) (fun k cs x hl hx => by
    obtain ⟨a, ha, _, hw⟩ := DataW.trod_int he hx
    obtain ⟨c, rfl⟩ := u8_of a hw
    exact ⟨c, ha, trivial⟩) hf
  exact ⟨A, n, c, l, slice_of_cells ht hv h1, by rwa [flat_one] at h2, h5⟩
/-- What is weighed of an argument is within the reach. -/
theorem reach_mem {ts : List TypeId} {ds : List (DataW H)} (hsz : (DataW.weightsEach P ts ds).all (· ≤ reachBytes) = true) {j : Nat} {t : TypeId} {d : DataW H} (ht : ts[j]? = some t) (hd : ds[j]? = some d) {n : Nat} (h : n ∈ d.weights P t) : n ≤ 140737488351232 :=
  of_decide_eq_true (List.all_eq_true.1 hsz _ (DataW.weights_mem_each ht hd _ h))
/-- A slice among the arguments is within the reach. -/
theorem reach_of {ts : List TypeId} {ds : List (DataW H)} (hsz : (DataW.weightsEach P ts ds).all (· ≤ reachBytes) = true) {j : Nat} {t e : TypeId} {d : DataW H} (ht : ts[j]? = some t) (hd : ds[j]? = some d) (hb : P.bytesOf e = 1) {n : Nat} (h : n = 0 ∨ ∃ k, n ≤ k ∧ k * P.bytesOf e ∈ d.weights P t) : n ≤ 140737488351232 := by
  rcases h with rfl | ⟨k, h1, h2⟩
  · omega
  · have := reach_mem hsz ht hd h2
    rw [hb, Nat.mul_one] at this
    omega
end
end Go.Proofs.Ytcbnhmcfdpcbhaa.Zx
