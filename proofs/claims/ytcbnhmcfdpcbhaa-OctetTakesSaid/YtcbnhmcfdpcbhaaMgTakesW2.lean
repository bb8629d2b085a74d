import Derived.Test.YtcbnhmcfdpcbhaaMgTakesW1

/-
  The Reader: numbers.
-/
namespace Go.Proofs.Ytcbnhmcfdpcbhaa
open Go.RowKit Zk Zx
set_option linter.unusedVariables false
set_option linter.unusedSimpArgs false

/-- A number of bytes, the highest first. -/
def be (l : List UInt8) : Nat := l.foldl (fun n c => n * 256 + c.toNat) 0
/-- What reading so many bytes gives, where it ends, and what is wrong then. -/
def rwL (l : List UInt8) (p q k : Nat) : List UInt8 := if q = 0 then tkL l p k else []
def rwP (l : List UInt8) (p q k : Nat) : Nat := if q = 0 then tkP l p k else p
def rwE (l : List UInt8) (p q k : Nat) : Nat := if q = 0 then tkE l p k q else q
theorem tkL_ok {l : List UInt8} {p k : Nat} (h : k ≤ l.length - p) : (tkL l p k).length = k := by rw [tkL, if_pos h, List.length_take, List.length_drop]; omega
theorem tkE_ok {l : List UInt8} {p k q : Nat} (h : k ≤ l.length - p) : tkE l p k q = q := by rw [tkE, if_pos h]
theorem tkE_no {l : List UInt8} {p k q : Nat} (h : ¬ k ≤ l.length - p) : tkE l p k q = 10 := by rw [tkE, if_neg h]
theorem tkL_no {l : List UInt8} {p k : Nat} (h : ¬ k ≤ l.length - p) : tkL l p k = [] := by rw [tkL, if_neg h]
theorem tkE_case {l : List UInt8} {p k : Nat} (h : ¬ ((tkE l p k 0 : Nat) : Int) ≠ 0) : k ≤ l.length - p := by
  by_cases hk : k ≤ l.length - p
  · exact hk
  · rw [tkE_no hk] at h
    omega
theorem tkE_caseN {l : List UInt8} {p k : Nat} (h : ((tkE l p k 0 : Nat) : Int) ≠ 0) : ¬ k ≤ l.length - p := fun hk => by
  rw [tkE_ok hk] at h
  omega
theorem tk_one {l : List UInt8} {p : Nat} (h : 1 ≤ l.length - p) : ∃ x, l[p]? = some x ∧ tkL l p 1 = [x] ∧ l.drop p = x :: l.drop (p + 1) := by
  have hp : p < l.length := by omega
  refine ⟨l[p], List.getElem?_eq_getElem hp, ?_, List.drop_eq_getElem_cons hp⟩
  rw [tkL, if_pos h, List.drop_eq_getElem_cons hp, List.take_succ_cons, List.take_zero]
theorem be_snoc (l : List UInt8) (c : UInt8) : be (l ++ [c]) = be l * 256 + c.toNat := by simp [be, List.foldl_append]
theorem be_from : ∀ (l : List UInt8) (a : Nat), l.foldl (fun n c => n * 256 + c.toNat) a < (a + 1) * 256 ^ l.length
  | [], a => by simp
  | c :: l, a => by
    have h := be_from l (a * 256 + c.toNat)
    have h2 : (a * 256 + c.toNat + 1) * 256 ^ l.length ≤ (a + 1) * 256 * 256 ^ l.length := Nat.mul_le_mul_right _ (by have := c.toNat_lt; omega)
    rw [List.foldl_cons, List.length_cons, Nat.pow_succ, Nat.mul_comm (256 ^ l.length), ← Nat.mul_assoc]
    omega
theorem be_lt (l : List UInt8) : be l < 256 ^ l.length := by simpa [be] using be_from l 0
theorem be_take {l : List UInt8} {k : Nat} {c : UInt8} (h : l[k]? = some c) : be (l.take (k + 1)) = be (l.take k) * 256 + c.toNat := by
  rw [List.take_add_one, h]
  exact be_snoc _ _
/-- A number by sevens: what it is, behind how many bytes, and what is wrong. -/
def numF : List UInt8 → Nat → Nat → Nat × Nat × Nat
  | [], k, _ => (0, k, 10)
  | c :: r, k, a => if (k = 9 ∧ 1 < c.toNat) ∨ (0 < k ∧ c.toNat = 0) then (0, k + 1, 12) else if c.toNat < 128 then (a + c.toNat % 128 * 128 ^ k, k + 1, 0) else numF r (k + 1) (a + c.toNat % 128 * 128 ^ k)
set_option maxRecDepth 100000 in
theorem and127 : ∀ m : Fin 256, bits .and .u8 (m.val : Int) 127 = ((m.val % 128 : Nat) : Int) := by decide
theorem andX (x : UInt8) : bits .and .u8 (x.toNat : Int) 127 = ((x.toNat % 128 : Nat) : Int) := and127 ⟨x.toNat, x.toNat_lt⟩
theorem pow7 (k : Nat) : 128 ^ k = 2 ^ (7 * k) := by rw [show (128 : Nat) = 2 ^ 7 from rfl, ← Nat.pow_mul]
theorem pow_eight {k : Nat} (h : k ≤ 8) : 128 ^ k ≤ 72057594037927936 := by
  have := Nat.pow_le_pow_right (show 0 < 128 by decide) h
  exact this
theorem num_lt {k a x : Nat} (hk : k ≤ 9) (ha : a < 128 ^ k) (hx : x ≤ 255) (h9 : k = 9 → x ≤ 1) : x % 128 * 128 ^ k ≤ 18446744073709551615 ∧ a + x % 128 * 128 ^ k ≤ 18446744073709551615 := by
  by_cases h : k = 9
  · have h1 := h9 h
    subst h
    have h2 : x % 128 * 128 ^ 9 ≤ 1 * 128 ^ 9 := Nat.mul_le_mul_right _ (by omega)
    have h3 : (128 : Nat) ^ 9 = 9223372036854775808 := rfl
    omega
  · have h1 := pow_eight (k := k) (by omega)
    have h2 : x % 128 * 128 ^ k ≤ 127 * 128 ^ k := Nat.mul_le_mul_right _ (by omega)
    omega
theorem num_next {k a x : Nat} (ha : a < 128 ^ k) : a + x % 128 * 128 ^ k < 128 ^ (k + 1) := by
  have h2 : x % 128 * 128 ^ k ≤ 127 * 128 ^ k := Nat.mul_le_mul_right _ (by omega)
  rw [Nat.pow_succ]
  omega
theorem shl7 (x k : Nat) (hk : k ≤ 9) (h : x * 128 ^ k ≤ 18446744073709551615) : IntKind.u64.wrap ((x : Int) * 2 ^ (min ((7 : Int) * (k : Int)).toNat IntKind.u64.bits)) = ((x * 128 ^ k : Nat) : Int) := by
  have e : min ((7 : Int) * (k : Int)).toNat IntKind.u64.bits = 7 * k := by simp only [IntKind.bits]; omega
  rw [e, show (x : Int) * 2 ^ (7 * k) = ((x * 128 ^ k : Nat) : Int) by rw [pow7]; push_cast; rfl, IntKind.wrap_u64]
  omega
theorem or64 (a b : Nat) (ha : a < 18446744073709551616) (hb : b < 18446744073709551616) : bits .or .u64 (a : Int) (b : Int) = ((a ||| b : Nat) : Int) := by
  have h : a ||| b < 2 ^ 64 := Nat.or_lt_two_pow ha hb
  show IntKind.u64.wrap ((((BitVec.ofInt 64 (a : Int)) ||| (BitVec.ofInt 64 (b : Int)) : BitVec 64).toNat : Nat) : Int) = _
  rw [BitVec.ofInt_natCast, BitVec.ofInt_natCast, BitVec.toNat_or, BitVec.toNat_ofNat, BitVec.toNat_ofNat]
  rw [Nat.mod_eq_of_lt (by omega), Nat.mod_eq_of_lt (by omega), IntKind.wrap_u64]
  omega
theorem or7 (a y k : Nat) (ha : a < 128 ^ k) (h : a + y * 128 ^ k ≤ 18446744073709551615) : bits .or .u64 (a : Int) ((y * 128 ^ k : Nat) : Int) = ((a + y * 128 ^ k : Nat) : Int) := by
  rw [or64 _ _ (by omega) (by omega), Nat.or_comm, pow7, Nat.mul_comm, ← Nat.two_pow_add_eq_or_of_lt (by rw [← pow7]; exact ha), Nat.add_comm]
theorem Rdd.turned {w w' : World} {g n c p q p' q' : Nat} {A : Option Addr} {l : List UInt8} (h : Turned w w' (rdr g A n c l p q) (rdr g A n c l p' q')) {p2 q2 : Nat} (hp : p' = p2) (hq : q' = q2) : Turned w w' (rdr g A n c l p q) (rdr g A n c l p2 q2) := by
  subst hp
  subst hq
  exact h


theorem tk_le (l : List UInt8) (p k : Nat) : (tkL l p k).length ≤ k := by unfold tkL; split <;> simp <;> omega
theorem be_bound {t : List UInt8} {k j : Nat} (hk : k < t.length) (ht : t.length ≤ j + 1) : be (t.take k) < 256 ^ j := by
  have h1 := be_lt (t.take k)
  rw [List.length_take, Nat.min_eq_left (by omega)] at h1
  exact Nat.lt_of_lt_of_le h1 (Nat.pow_le_pow_right (by decide) (by omega))
theorem or256 (a : Nat) (x : UInt8) : a * 256 ||| x.toNat = a * 256 + x.toNat := by
  rw [Nat.mul_comm, show (256 : Nat) = 2 ^ 8 from rfl, Nat.two_pow_add_eq_or_of_lt x.toNat_lt]
theorem or32 (a b : Nat) (ha : a < 4294967296) (hb : b < 4294967296) : bits .or .u32 (a : Int) (b : Int) = ((a ||| b : Nat) : Int) := by
  have h : a ||| b < 2 ^ 32 := Nat.or_lt_two_pow ha hb
  show IntKind.u32.wrap ((((BitVec.ofInt 32 (a : Int)) ||| (BitVec.ofInt 32 (b : Int)) : BitVec 32).toNat : Nat) : Int) = _
  rw [BitVec.ofInt_natCast, BitVec.ofInt_natCast, BitVec.toNat_or, BitVec.toNat_ofNat, BitVec.toNat_ofNat]
  rw [Nat.mod_eq_of_lt (by omega), Nat.mod_eq_of_lt (by omega), IntKind.wrap_u32]
  omega
theorem shl8_32 (a : Nat) (h : a < 256 ^ 3) : IntKind.u32.wrap ((a : Int) * 2 ^ (min (8 : Int).toNat IntKind.u32.bits)) = ((a * 256 : Nat) : Int) := by
  rw [show (2 : Int) ^ (min (8 : Int).toNat IntKind.u32.bits) = 256 by decide, IntKind.wrap_u32]
  omega
theorem shl8_64 (a : Nat) (h : a < 256 ^ 7) : IntKind.u64.wrap ((a : Int) * 2 ^ (min (8 : Int).toNat IntKind.u64.bits)) = ((a * 256 : Nat) : Int) := by
  rw [show (2 : Int) ^ (min (8 : Int).toNat IntKind.u64.bits) = 256 by decide, IntKind.wrap_u64]
  omega
theorem orbe32 (a : Nat) (x : UInt8) (h : a < 256 ^ 3) : bits .or .u32 ((a * 256 : Nat) : Int) (x.toNat : Int) = ((a * 256 + x.toNat : Nat) : Int) := by
  rw [or32 _ _ (by omega) (by have := x.toNat_lt; omega), or256]
theorem orbe64 (a : Nat) (x : UInt8) (h : a < 256 ^ 7) : bits .or .u64 ((a * 256 : Nat) : Int) (x.toNat : Int) = ((a * 256 + x.toNat : Nat) : Int) := by
  rw [or64 _ _ (by omega) (by have := x.toNat_lt; omega), or256]
theorem bL_getX {l : List UInt8} {k : Nat} {x : UInt8} (h : l[k]? = some x) : (bL l)[k]? = some (Value.int .u8 (x.toNat : Int)) := bL_get l k x h


theorem split1 {w0 w : World} {M : Nat → Prop} {r s : Res} (S : St w0 M [both r s] w) (hap : ∀ i, r.dom i → ¬ s.dom i) : St w0 M [r, s] w :=
  ⟨S.os, S.tape, S.output, S.size, S.old, fun q hq => by
    have h1 := S.res _ List.mem_cons_self
    rcases List.mem_cons.1 hq with rfl | hq
    · exact ⟨h1.1.1, fun i hi => h1.2 i (.inl hi)⟩
    · obtain rfl := List.mem_singleton.1 hq
      exact ⟨h1.1.2, fun i hi => h1.2 i (.inr hi)⟩, List.pairwise_cons.2 ⟨fun s' hs' => by obtain rfl := List.mem_singleton.1 hs'; exact hap, List.pairwise_singleton _ _⟩⟩
theorem Rdd.end2 {w0 w : World} {g n c p q p' q' : Nat} {A : Option Addr} {l : List UInt8} {X : Array Value} (S : St w0 (rdr g A n c l p q).dom [blk g 68 X, row 5 1 A n c (bL l)] w) (hX : X = #[.slice A n c, .int .i64 (p' : Int), .int .i64 (q' : Int)]) : Turned w0 w (rdr g A n c l p q) (rdr g A n c l p' q') :=
  Rdd.of (St.turned2 (r := blk g 68 #[.slice A n c, .int .i64 (p : Int), .int .i64 (q : Int)]) (s := row 5 1 A n c (bL l)) S 0 1 rfl rfl) hX


set_option maxRecDepth 100000 in
theorem rnumber (g : Nat) (A : Option Addr) (n c : Nat) (l : List UInt8) (p : Nat) (w0 : World) (hw : (rdr g A n c l p 0).holds w0) (hp : p ≤ l.length) (hn62 : n ≤ 4611686018427387904) :
    Calls Try.prog 38 #[.pointer (some ⟨g, 0, none⟩)] w0 fun e w' => ∃ u, e = .returned u ∧ u = .int .u64 ((numF (l.drop p) 0 0).1 : Int) ∧ Turned w0 w' (rdr g A n c l p 0) (rdr g A n c l (p + (numF (l.drop p) 0 0).2.1) (numF (l.drop p) 0 0).2.2) := by
  refine enter1 (env := [(0, .pointer (some ⟨g, 0, none⟩))]) [.pointer (some ⟨g, 0, none⟩)] Try.func38 rfl Try.ntmps38 rfl rfl ?_
  have hnl := rdr_len hw; have hnc := ownsRow_cap hw.2; have S0 := St.borrow1 (rdr g A n c l p 0) hw (rdr_lt hw)
  refine T_seq fun K1 hK1 => ?_
  refine T_region ?_
  refine L_y (y_assign rfl) rfl ?_
  refine L_nil ?_
  refine hK1 _ _ ?_
  refine T_seq fun K2 hK2 => ?_
  refine T_region ?_
  refine L_y (y_assign rfl) rfl ?_
  refine L_nil ?_
  refine hK2 _ _ ?_
  refine T_seq fun K3 hK3 => ?_
  refine T_region ?_
  refine L_y (y_assign rfl) rfl ?_
  refine L_nil ?_
  refine hK3 _ _ ?_
  refine T_block ?_
  refine T_loop2 [(0, _)] (fun (k : Nat) (a : Nat) => [(3, .int .u64 (a : Int)), (4, .int .i64 (k : Int))]) (fun (k : Nat) (a : Nat) => 10 - k) (fun (k : Nat) (a : Nat) (w : World) => ((k ≤ 9 ∧ p + k ≤ l.length ∧ a < 128 ^ k) ∧ numF (l.drop (p + k)) k a = numF (l.drop p) 0 0) ∧ St w0 (rdr g A n c l p 0).dom [rdr g A n c l (p + k) 0] w) 0 0 (Sub.cons rfl (by first | rfl | exact congrArg (Value.int _) (by omega)) (Sub.cons rfl (by first | rfl | exact congrArg (Value.int _) (by omega)) (Sub.nil _))) (Sub.cons rfl rfl (Sub.nil _)) ?_ ?_
  ·
    exact ⟨⟨⟨by omega, by omega, by decide⟩, rfl⟩, S0⟩
  ·
    intro k a w1 hrel
    obtain ⟨⟨⟨hk9, hpk, ha⟩, hN⟩, S1⟩ := hrel
    refine T_seq fun K4 hK4 => ?_
    refine T_block ?_
    refine T_seq fun K5 hK5 => ?_
    refine T_region ?_
    refine L_y (y_move rfl) rfl ?_
    refine L_o (o_call Try.func39 rfl rfl (rtake g A n c l (p + k) _ 1 w1 (S1.get 0 rfl) (by omega) (by omega) hn62) rfl rfl ?_)
    rintro e2 w2 ⟨v2, rfl, B2, d2, rfl, R2, T2⟩
    refine ⟨_, rfl, ?_⟩
    have S2 := S1.turn 0 rfl T2
    have RR := R2
    refine L_y (y_assign rfl) rfl ?_
    refine L_nil ?_
    refine hK5 _ _ ?_
    refine T_seq fun K6 hK6 => ?_
    refine T_seq fun K7 hK7 => ?_
    refine T_region ?_
    refine L_y (y_move rfl) rfl ?_
    refine L_y (y_nilp rfl) rfl ?_
    refine L_y (y_fieldA 2 Try.underlying68 rfl sz40 rfl rfl rfl) rfl ?_
    refine L_y (y_ldc Try.underlying40 rfl rfl (((S2.get 0 rfl).1.cell _).trans (by rfl))) rfl ?_
    refine L_y (y_neq rfl rfl) rfl ?_
    refine L_nil ?_
    refine hK7 _ _ ?_
    refine T_cond rfl (fun h15 => ?_) (fun h15 => ?_)
    ·
      have hk1 := tkE_caseN h15
      have hN2 : numF (l.drop p) 0 0 = (0, k, 10) := by rw [← hN, List.drop_eq_nil_of_le (by omega)]; rfl
      refine T_seq fun K8 hK8 => ?_
      refine T_region ?_
      refine L_y (y_assign rfl) rfl ?_
      refine L_nil ?_
      refine hK8 _ _ ?_
      refine T_ret ?_
      refine ur ?_
      refine ret1 rfl rfl ?_
      first | exact ⟨_, rfl, by rw [hN2]; rfl, Rdd.turned (S2.turned1 0 rfl) (by rw [hN2, tkP, if_neg hk1]) (by rw [hN2, tkE_no hk1])⟩ | exact ⟨_, rfl, by rw [hN2], Rdd.turned (S2.turned1 0 rfl) (by rw [hN2]) (by rw [hN2])⟩ | exact ⟨_, rfl, by rw [hN2]; rfl, by rw [hN2]; exact Rdd.end2 S2 rfl⟩
    ·
      have hk1 := tkE_case h15
      obtain ⟨x, hx, htk, hdr⟩ := tk_one hk1
      rw [show bL (tkL l (p + k) 1) = bL [x] from congrArg bL htk] at RR
      rw [show tkP l (p + k) 1 = p + (k + 1) by rw [tkP, if_pos hk1]; omega, tkE_ok hk1] at S2
      have hxl := x.toNat_lt
      refine T_skip ?_
      refine hK6 _ _ ?_
      refine T_seq fun K9 hK9 => ?_
      refine T_region ?_
      refine L_y (y_move rfl) rfl ?_
      refine L_y (y_idx Try.underlying25 sz5 rfl rfl (RR) inferInstance (by rw [tkL_ok hk1]; decide)) rfl ?_
      refine L_y (y_ldr Try.underlying5 rfl rfl RR (show ([bV x])[0]? = some (Value.int .u8 (x.toNat : Int)) from rfl)) rfl ?_
      refine L_y (y_assign rfl) rfl ?_
      refine L_nil ?_
      refine hK9 _ _ ?_
      refine T_seq fun K10 hK10 => ?_
      refine T_seq fun K11 hK11 => ?_
      refine T_region ?_
      refine L_y (y_move rfl) rfl ?_
      refine L_y (y_eql rfl rfl) rfl ?_
      refine L_y (y_move rfl) rfl ?_
      refine L_split 21 rfl (fun h21 => ?_) (fun h21 => ?_)
      ·
        refine L_gyes rfl rfl ?_
        refine L_y (y_move rfl) rfl ?_
        refine L_gyes rfl rfl ?_
        refine L_y (y_gtr rfl rfl) rfl ?_
        refine L_y (y_pk rfl rfl) rfl ?_
        refine L_y (y_move rfl) rfl ?_
        refine L_split 25 rfl (fun h25 => ?_) (fun h25 => ?_)
        ·
          refine L_gno rfl rfl rfl ?_
          refine L_gno rfl rfl rfl ?_
          refine L_gno rfl rfl rfl ?_
          refine L_gnu rfl rfl rfl ?_
          refine L_gnu rfl rfl rfl ?_
          refine L_gno rfl rfl rfl ?_
          refine L_y (y_pk rfl rfl) rfl ?_
          refine L_nil ?_
          refine hK11 _ _ ?_
          refine T_true rfl ?_
          refine T_seq fun K12 hK12 => ?_
          have hF : ((k = 9 ∧ 1 < x.toNat) ∨ (0 < k ∧ x.toNat = 0)) := by omega
          have hN2 : numF (l.drop p) 0 0 = (0, k + 1, 12) := by rw [← hN, hdr, numF, if_pos hF]
          refine T_region ?_
          refine L_y (y_move rfl) rfl ?_
          refine L_y (y_nilp rfl) rfl ?_
          have S5 := split1 S2 (rdr_apart (S2.get 0 rfl))
          refine L_y (y_fieldA 2 Try.underlying68 rfl sz40 rfl rfl rfl) rfl ?_
          refine L_o (o_st1 S5 0 rfl rfl rfl rfl sz40 (by simp; done) fun w6 S6 => ?_)
          refine L_nil ?_
          refine hK12 _ _ ?_
          refine T_seq fun K13 hK13 => ?_
          refine T_region ?_
          refine L_y (y_assign rfl) rfl ?_
          refine L_nil ?_
          refine hK13 _ _ ?_
          refine T_ret ?_
          refine ur ?_
          refine ret1 rfl rfl ?_
          first | exact ⟨_, rfl, by rw [hN2]; rfl, Rdd.turned (S6.turned1 0 rfl) (by rw [hN2, tkP, if_neg hk1]) (by rw [hN2, tkE_no hk1])⟩ | exact ⟨_, rfl, by rw [hN2], Rdd.turned (S6.turned1 0 rfl) (by rw [hN2]) (by rw [hN2])⟩ | exact ⟨_, rfl, by rw [hN2]; rfl, by rw [hN2]; exact Rdd.end2 S6 rfl⟩
        ·
          refine L_gyes rfl rfl ?_
          refine L_y (y_move rfl) rfl ?_
          refine L_gyes rfl rfl ?_
          refine L_y (y_gtr rfl rfl) rfl ?_
          refine L_gyes rfl rfl ?_
          refine L_y (y_move rfl) rfl ?_
          refine L_split 28 rfl (fun h28 => ?_) (fun h28 => ?_)
          ·
            refine L_gyes rfl rfl ?_
            refine L_y (y_move rfl) rfl ?_
            refine L_gyes rfl rfl ?_
            refine L_y (y_eql rfl rfl) rfl ?_
            refine L_gyes rfl rfl ?_
            refine L_y (y_pk rfl rfl) rfl ?_
            refine L_y (y_pk rfl rfl) rfl ?_
            refine L_nil ?_
            refine hK11 _ _ ?_
            refine T_cond rfl (fun h32 => ?_) (fun h32 => ?_)
            ·
              refine T_seq fun K14 hK14 => ?_
              have hF : ((k = 9 ∧ 1 < x.toNat) ∨ (0 < k ∧ x.toNat = 0)) := by omega
              have hN2 : numF (l.drop p) 0 0 = (0, k + 1, 12) := by rw [← hN, hdr, numF, if_pos hF]
              refine T_region ?_
              refine L_y (y_move rfl) rfl ?_
              refine L_y (y_nilp rfl) rfl ?_
              have S8 := split1 S2 (rdr_apart (S2.get 0 rfl))
              refine L_y (y_fieldA 2 Try.underlying68 rfl sz40 rfl rfl rfl) rfl ?_
              refine L_o (o_st1 S8 0 rfl rfl rfl rfl sz40 (by simp; done) fun w9 S9 => ?_)
              refine L_nil ?_
              refine hK14 _ _ ?_
              refine T_seq fun K15 hK15 => ?_
              refine T_region ?_
              refine L_y (y_assign rfl) rfl ?_
              refine L_nil ?_
              refine hK15 _ _ ?_
              refine T_ret ?_
              refine ur ?_
              refine ret1 rfl rfl ?_
              first | exact ⟨_, rfl, by rw [hN2]; rfl, Rdd.turned (S9.turned1 0 rfl) (by rw [hN2, tkP, if_neg hk1]) (by rw [hN2, tkE_no hk1])⟩ | exact ⟨_, rfl, by rw [hN2], Rdd.turned (S9.turned1 0 rfl) (by rw [hN2]) (by rw [hN2])⟩ | exact ⟨_, rfl, by rw [hN2]; rfl, by rw [hN2]; exact Rdd.end2 S9 rfl⟩
            ·
              refine T_skip ?_
              refine hK10 _ _ ?_
              refine T_seq fun K16 hK16 => ?_
              have hF : ¬ ((k = 9 ∧ 1 < x.toNat) ∨ (0 < k ∧ x.toNat = 0)) := by omega
              have hnm := num_lt hk9 ha (x := x.toNat) (by omega) (fun h => by omega)
              refine T_region ?_
              refine L_y (y_move rfl) rfl ?_
              refine L_y (y_move rfl) rfl ?_
              refine L_y (y_bits rfl rfl rfl (andX x)) rfl ?_
              refine L_y (y_conv is5 Try.underlying27 rfl (u64w (by omega))) rfl ?_
              refine L_y (y_move rfl) rfl ?_
              refine L_y (y_mul rfl rfl (i64w (by omega))) rfl ?_
              refine L_y (y_conv is3 Try.underlying70 rfl (u64w (by omega))) rfl ?_
              refine L_y (y_shl rfl rfl (by omega) (shl7 _ k hk9 hnm.1)) rfl ?_
              refine L_y (y_bits rfl rfl rfl (or7 a _ k ha hnm.2)) rfl ?_
              refine L_y (y_assign rfl) rfl ?_
              refine L_nil ?_
              refine hK16 _ _ ?_
              refine T_seq fun K17 hK17 => ?_
              refine T_region ?_
              refine L_y (y_move rfl) rfl ?_
              refine L_y (y_lss rfl rfl) rfl ?_
              refine L_nil ?_
              refine hK17 _ _ ?_
              refine T_cond rfl (fun h46 => ?_) (fun h46 => ?_)
              ·
                have hN2 : numF (l.drop p) 0 0 = (a + x.toNat % 128 * 128 ^ k, k + 1, 0) := by rw [← hN, hdr, numF, if_neg hF, if_pos (by omega)]
                refine T_seq fun K18 hK18 => ?_
                refine T_region ?_
                refine L_y (y_move rfl) rfl ?_
                refine L_y (y_assign rfl) rfl ?_
                refine L_nil ?_
                refine hK18 _ _ ?_
                refine T_ret ?_
                refine ur ?_
                refine ret1 rfl rfl ?_
                first | exact ⟨_, rfl, by rw [hN2]; rfl, Rdd.turned (S2.turned1 0 rfl) (by rw [hN2, tkP, if_neg hk1]) (by rw [hN2, tkE_no hk1])⟩ | exact ⟨_, rfl, by rw [hN2], Rdd.turned (S2.turned1 0 rfl) (by rw [hN2]) (by rw [hN2])⟩ | exact ⟨_, rfl, by rw [hN2]; rfl, by rw [hN2]; exact Rdd.end2 S2 rfl⟩
              ·
                refine T_skip ?_
                refine hK4 _ _ ?_
                refine T_region ?_
                refine L_y (y_move rfl) rfl ?_
                refine L_y (y_add rfl rfl (i64w (by omega))) rfl ?_
                refine L_y (y_assign rfl) rfl ?_
                refine L_nil ?_
                refine ⟨k + 1, a + x.toNat % 128 * 128 ^ k, by omega, ⟨⟨⟨by omega, by omega, num_next ha⟩, by rw [← hN, hdr, numF, if_neg hF, if_neg (by omega)]; rfl⟩, S2⟩, ?_⟩
                exact (Sub.cons rfl (by first | rfl | exact congrArg (Value.int _) (by omega)) (Sub.cons rfl (by first | rfl | exact congrArg (Value.int _) (by omega)) (Sub.cons rfl rfl (Sub.nil _))))
          ·
            refine L_gno rfl rfl rfl ?_
            refine L_gno rfl rfl rfl ?_
            refine L_gyes rfl rfl ?_
            refine L_y (y_pk rfl rfl) rfl ?_
            refine L_y (y_pk rfl rfl) rfl ?_
            refine L_nil ?_
            refine hK11 _ _ ?_
            refine T_false rfl ?_
            refine T_skip ?_
            refine hK10 _ _ ?_
            refine T_seq fun K19 hK19 => ?_
            have hF : ¬ ((k = 9 ∧ 1 < x.toNat) ∨ (0 < k ∧ x.toNat = 0)) := by omega
            have hnm := num_lt hk9 ha (x := x.toNat) (by omega) (fun h => by omega)
            refine T_region ?_
            refine L_y (y_move rfl) rfl ?_
            refine L_y (y_move rfl) rfl ?_
            refine L_y (y_bits rfl rfl rfl (andX x)) rfl ?_
            refine L_y (y_conv is5 Try.underlying27 rfl (u64w (by omega))) rfl ?_
            refine L_y (y_move rfl) rfl ?_
            refine L_y (y_mul rfl rfl (i64w (by omega))) rfl ?_
            refine L_y (y_conv is3 Try.underlying70 rfl (u64w (by omega))) rfl ?_
            refine L_y (y_shl rfl rfl (by omega) (shl7 _ k hk9 hnm.1)) rfl ?_
            refine L_y (y_bits rfl rfl rfl (or7 a _ k ha hnm.2)) rfl ?_
            refine L_y (y_assign rfl) rfl ?_
            refine L_nil ?_
            refine hK19 _ _ ?_
            refine T_seq fun K20 hK20 => ?_
            refine T_region ?_
            refine L_y (y_move rfl) rfl ?_
            refine L_y (y_lss rfl rfl) rfl ?_
            refine L_nil ?_
            refine hK20 _ _ ?_
            refine T_cond rfl (fun h46 => ?_) (fun h46 => ?_)
            ·
              have hN2 : numF (l.drop p) 0 0 = (a + x.toNat % 128 * 128 ^ k, k + 1, 0) := by rw [← hN, hdr, numF, if_neg hF, if_pos (by omega)]
              refine T_seq fun K21 hK21 => ?_
              refine T_region ?_
              refine L_y (y_move rfl) rfl ?_
              refine L_y (y_assign rfl) rfl ?_
              refine L_nil ?_
              refine hK21 _ _ ?_
              refine T_ret ?_
              refine ur ?_
              refine ret1 rfl rfl ?_
              first | exact ⟨_, rfl, by rw [hN2]; rfl, Rdd.turned (S2.turned1 0 rfl) (by rw [hN2, tkP, if_neg hk1]) (by rw [hN2, tkE_no hk1])⟩ | exact ⟨_, rfl, by rw [hN2], Rdd.turned (S2.turned1 0 rfl) (by rw [hN2]) (by rw [hN2])⟩ | exact ⟨_, rfl, by rw [hN2]; rfl, by rw [hN2]; exact Rdd.end2 S2 rfl⟩
            ·
              refine T_skip ?_
              refine hK4 _ _ ?_
              refine T_region ?_
              refine L_y (y_move rfl) rfl ?_
              refine L_y (y_add rfl rfl (i64w (by omega))) rfl ?_
              refine L_y (y_assign rfl) rfl ?_
              refine L_nil ?_
              refine ⟨k + 1, a + x.toNat % 128 * 128 ^ k, by omega, ⟨⟨⟨by omega, by omega, num_next ha⟩, by rw [← hN, hdr, numF, if_neg hF, if_neg (by omega)]; rfl⟩, S2⟩, ?_⟩
              exact (Sub.cons rfl (by first | rfl | exact congrArg (Value.int _) (by omega)) (Sub.cons rfl (by first | rfl | exact congrArg (Value.int _) (by omega)) (Sub.cons rfl rfl (Sub.nil _))))
      ·
        refine L_gno rfl rfl rfl ?_
        refine L_gno rfl rfl rfl ?_
        refine L_y (y_pk rfl rfl) rfl ?_
        refine L_y (y_move rfl) rfl ?_
        refine L_gyes rfl rfl ?_
        refine L_y (y_move rfl) rfl ?_
        refine L_gyes rfl rfl ?_
        refine L_y (y_gtr rfl rfl) rfl ?_
        refine L_gyes rfl rfl ?_
        refine L_y (y_move rfl) rfl ?_
        refine L_split 28 rfl (fun h28 => ?_) (fun h28 => ?_)
        ·
          refine L_gyes rfl rfl ?_
          refine L_y (y_move rfl) rfl ?_
          refine L_gyes rfl rfl ?_
          refine L_y (y_eql rfl rfl) rfl ?_
          refine L_gyes rfl rfl ?_
          refine L_y (y_pk rfl rfl) rfl ?_
          refine L_y (y_pk rfl rfl) rfl ?_
          refine L_nil ?_
          refine hK11 _ _ ?_
          refine T_cond rfl (fun h32 => ?_) (fun h32 => ?_)
          ·
            refine T_seq fun K22 hK22 => ?_
            have hF : ((k = 9 ∧ 1 < x.toNat) ∨ (0 < k ∧ x.toNat = 0)) := by omega
            have hN2 : numF (l.drop p) 0 0 = (0, k + 1, 12) := by rw [← hN, hdr, numF, if_pos hF]
            refine T_region ?_
            refine L_y (y_move rfl) rfl ?_
            refine L_y (y_nilp rfl) rfl ?_
            have S11 := split1 S2 (rdr_apart (S2.get 0 rfl))
            refine L_y (y_fieldA 2 Try.underlying68 rfl sz40 rfl rfl rfl) rfl ?_
            refine L_o (o_st1 S11 0 rfl rfl rfl rfl sz40 (by simp; done) fun w12 S12 => ?_)
            refine L_nil ?_
            refine hK22 _ _ ?_
            refine T_seq fun K23 hK23 => ?_
            refine T_region ?_
            refine L_y (y_assign rfl) rfl ?_
            refine L_nil ?_
            refine hK23 _ _ ?_
            refine T_ret ?_
            refine ur ?_
            refine ret1 rfl rfl ?_
            first | exact ⟨_, rfl, by rw [hN2]; rfl, Rdd.turned (S12.turned1 0 rfl) (by rw [hN2, tkP, if_neg hk1]) (by rw [hN2, tkE_no hk1])⟩ | exact ⟨_, rfl, by rw [hN2], Rdd.turned (S12.turned1 0 rfl) (by rw [hN2]) (by rw [hN2])⟩ | exact ⟨_, rfl, by rw [hN2]; rfl, by rw [hN2]; exact Rdd.end2 S12 rfl⟩
          ·
            refine T_skip ?_
            refine hK10 _ _ ?_
            refine T_seq fun K24 hK24 => ?_
            have hF : ¬ ((k = 9 ∧ 1 < x.toNat) ∨ (0 < k ∧ x.toNat = 0)) := by omega
            have hnm := num_lt hk9 ha (x := x.toNat) (by omega) (fun h => by omega)
            refine T_region ?_
            refine L_y (y_move rfl) rfl ?_
            refine L_y (y_move rfl) rfl ?_
            refine L_y (y_bits rfl rfl rfl (andX x)) rfl ?_
            refine L_y (y_conv is5 Try.underlying27 rfl (u64w (by omega))) rfl ?_
            refine L_y (y_move rfl) rfl ?_
            refine L_y (y_mul rfl rfl (i64w (by omega))) rfl ?_
            refine L_y (y_conv is3 Try.underlying70 rfl (u64w (by omega))) rfl ?_
            refine L_y (y_shl rfl rfl (by omega) (shl7 _ k hk9 hnm.1)) rfl ?_
            refine L_y (y_bits rfl rfl rfl (or7 a _ k ha hnm.2)) rfl ?_
            refine L_y (y_assign rfl) rfl ?_
            refine L_nil ?_
            refine hK24 _ _ ?_
            refine T_seq fun K25 hK25 => ?_
            refine T_region ?_
            refine L_y (y_move rfl) rfl ?_
            refine L_y (y_lss rfl rfl) rfl ?_
            refine L_nil ?_
            refine hK25 _ _ ?_
            refine T_cond rfl (fun h46 => ?_) (fun h46 => ?_)
            ·
              have hN2 : numF (l.drop p) 0 0 = (a + x.toNat % 128 * 128 ^ k, k + 1, 0) := by rw [← hN, hdr, numF, if_neg hF, if_pos (by omega)]
              refine T_seq fun K26 hK26 => ?_
              refine T_region ?_
              refine L_y (y_move rfl) rfl ?_
              refine L_y (y_assign rfl) rfl ?_
              refine L_nil ?_
              refine hK26 _ _ ?_
              refine T_ret ?_
              refine ur ?_
              refine ret1 rfl rfl ?_
              first | exact ⟨_, rfl, by rw [hN2]; rfl, Rdd.turned (S2.turned1 0 rfl) (by rw [hN2, tkP, if_neg hk1]) (by rw [hN2, tkE_no hk1])⟩ | exact ⟨_, rfl, by rw [hN2], Rdd.turned (S2.turned1 0 rfl) (by rw [hN2]) (by rw [hN2])⟩ | exact ⟨_, rfl, by rw [hN2]; rfl, by rw [hN2]; exact Rdd.end2 S2 rfl⟩
            ·
              refine T_skip ?_
              refine hK4 _ _ ?_
              refine T_region ?_
              refine L_y (y_move rfl) rfl ?_
              refine L_y (y_add rfl rfl (i64w (by omega))) rfl ?_
              refine L_y (y_assign rfl) rfl ?_
              refine L_nil ?_
              refine ⟨k + 1, a + x.toNat % 128 * 128 ^ k, by omega, ⟨⟨⟨by omega, by omega, num_next ha⟩, by rw [← hN, hdr, numF, if_neg hF, if_neg (by omega)]; rfl⟩, S2⟩, ?_⟩
              exact (Sub.cons rfl (by first | rfl | exact congrArg (Value.int _) (by omega)) (Sub.cons rfl (by first | rfl | exact congrArg (Value.int _) (by omega)) (Sub.cons rfl rfl (Sub.nil _))))
        ·
          refine L_gno rfl rfl rfl ?_
          refine L_gno rfl rfl rfl ?_
          refine L_gyes rfl rfl ?_
          refine L_y (y_pk rfl rfl) rfl ?_
          refine L_y (y_pk rfl rfl) rfl ?_
          refine L_nil ?_
          refine hK11 _ _ ?_
          refine T_false rfl ?_
          refine T_skip ?_
          refine hK10 _ _ ?_
          refine T_seq fun K27 hK27 => ?_
          have hF : ¬ ((k = 9 ∧ 1 < x.toNat) ∨ (0 < k ∧ x.toNat = 0)) := by omega
          have hnm := num_lt hk9 ha (x := x.toNat) (by omega) (fun h => by omega)
          refine T_region ?_
          refine L_y (y_move rfl) rfl ?_
          refine L_y (y_move rfl) rfl ?_
          refine L_y (y_bits rfl rfl rfl (andX x)) rfl ?_
          refine L_y (y_conv is5 Try.underlying27 rfl (u64w (by omega))) rfl ?_
          refine L_y (y_move rfl) rfl ?_
          refine L_y (y_mul rfl rfl (i64w (by omega))) rfl ?_
          refine L_y (y_conv is3 Try.underlying70 rfl (u64w (by omega))) rfl ?_
          refine L_y (y_shl rfl rfl (by omega) (shl7 _ k hk9 hnm.1)) rfl ?_
          refine L_y (y_bits rfl rfl rfl (or7 a _ k ha hnm.2)) rfl ?_
          refine L_y (y_assign rfl) rfl ?_
          refine L_nil ?_
          refine hK27 _ _ ?_
          refine T_seq fun K28 hK28 => ?_
          refine T_region ?_
          refine L_y (y_move rfl) rfl ?_
          refine L_y (y_lss rfl rfl) rfl ?_
          refine L_nil ?_
          refine hK28 _ _ ?_
          refine T_cond rfl (fun h46 => ?_) (fun h46 => ?_)
          ·
            have hN2 : numF (l.drop p) 0 0 = (a + x.toNat % 128 * 128 ^ k, k + 1, 0) := by rw [← hN, hdr, numF, if_neg hF, if_pos (by omega)]
            refine T_seq fun K29 hK29 => ?_
            refine T_region ?_
            refine L_y (y_move rfl) rfl ?_
            refine L_y (y_assign rfl) rfl ?_
            refine L_nil ?_
            refine hK29 _ _ ?_
            refine T_ret ?_
            refine ur ?_
            refine ret1 rfl rfl ?_
            first | exact ⟨_, rfl, by rw [hN2]; rfl, Rdd.turned (S2.turned1 0 rfl) (by rw [hN2, tkP, if_neg hk1]) (by rw [hN2, tkE_no hk1])⟩ | exact ⟨_, rfl, by rw [hN2], Rdd.turned (S2.turned1 0 rfl) (by rw [hN2]) (by rw [hN2])⟩ | exact ⟨_, rfl, by rw [hN2]; rfl, by rw [hN2]; exact Rdd.end2 S2 rfl⟩
          ·
            refine T_skip ?_
            refine hK4 _ _ ?_
            refine T_region ?_
            refine L_y (y_move rfl) rfl ?_
            refine L_y (y_add rfl rfl (i64w (by omega))) rfl ?_
            refine L_y (y_assign rfl) rfl ?_
            refine L_nil ?_
            refine ⟨k + 1, a + x.toNat % 128 * 128 ^ k, by omega, ⟨⟨⟨by omega, by omega, num_next ha⟩, by rw [← hN, hdr, numF, if_neg hF, if_neg (by omega)]; rfl⟩, S2⟩, ?_⟩
            exact (Sub.cons rfl (by first | rfl | exact congrArg (Value.int _) (by omega)) (Sub.cons rfl (by first | rfl | exact congrArg (Value.int _) (by omega)) (Sub.cons rfl rfl (Sub.nil _))))


theorem Rdd.join {w0 w : World} {M : Nat → Prop} {g n c p' q' : Nat} {A : Option Addr} {l : List UInt8} {X : Array Value} (S : St w0 M [blk g 68 X, row 5 1 A n c (bL l)] w) (hX : X = #[.slice A n c, .int .i64 (p' : Int), .int .i64 (q' : Int)]) : St w0 M [rdr g A n c l p' q'] w := by
  subst hX
  exact S.join
/-- What reading a number up to m gives, where it ends, and what is wrong then. -/
def vaN (l : List UInt8) (p q m : Nat) : Nat × Nat × Nat :=
  if q ≠ 0 then (0, p, q) else if (numF (l.drop p) 0 0).2.2 ≠ 0 then (0, p, (numF (l.drop p) 0 0).2.2) else if m < (numF (l.drop p) 0 0).1 then (0, p, 3) else ((numF (l.drop p) 0 0).1, p + (numF (l.drop p) 0 0).2.1, 0)


set_option maxRecDepth 100000 in
theorem rvar (g : Nat) (A : Option Addr) (n c : Nat) (l : List UInt8) (p q : Nat) (m : Nat) (w0 : World) (hw : (rdr g A n c l p q).holds w0) (hp : p ≤ l.length) (hn62 : n ≤ 4611686018427387904) :
    Calls Try.prog 16 #[.pointer (some ⟨g, 0, none⟩), .int .u64 (m : Int)] w0 fun e w' => ∃ u, e = .returned u ∧ u = .int .u64 ((vaN l p q m).1 : Int) ∧ Turned w0 w' (rdr g A n c l p q) (rdr g A n c l (vaN l p q m).2.1 (vaN l p q m).2.2) := by
  refine enterD1 (env := [(0, .pointer (some ⟨g, 0, none⟩)), (1, .int .u64 (m : Int))]) [.pointer (some ⟨g, 0, none⟩), .int .u64 (m : Int)] Try.func16 rfl Try.ntmps16 rfl rfl ?_
  have hnl := rdr_len hw; have hnc := ownsRow_cap hw.2; have S0 := St.borrow1 (rdr g A n c l p q) hw (rdr_lt hw)
  refine T_seq fun K1 hK1 => ?_
  refine T_region ?_
  refine L_y (y_assign rfl) rfl ?_
  refine L_nil ?_
  refine hK1 _ _ ?_
  refine T_seq fun K2 hK2 => ?_
  refine T_seq fun K3 hK3 => ?_
  refine T_region ?_
  refine L_y (y_move rfl) rfl ?_
  refine L_o (o_call Try.func36 rfl rfl (rdead g A n c l p _ w0 (S0.get 0 rfl) hp) rfl rfl ?_)
  rintro e1 w1 ⟨v1, rfl, l1, rfl⟩
  refine ⟨_, rfl, ?_⟩
  have S1 := S0.like l1
  refine L_nil ?_
  refine hK3 _ _ ?_
  refine T_cond rfl (fun h7 => ?_) (fun h7 => ?_)
  ·
    refine T_seq fun K4 hK4 => ?_
    refine T_region ?_
    refine L_y (y_assign rfl) rfl ?_
    refine L_nil ?_
    refine hK4 _ _ ?_
    refine T_ret ?_
    refine ur ?_
    refine retd1 rfl rfl ?_
    have hV : vaN l p q m = (0, p, q) := by rw [vaN, if_pos (by omega)]
    exact ⟨_, rfl, by rw [hV]; rfl, by rw [hV]; exact Rdd.turned (S1.turned1 0 rfl) rfl rfl⟩
  ·
    have hq : q = 0 := by omega
    subst hq
    refine T_skip ?_
    refine hK2 _ _ ?_
    refine T_seq fun K5 hK5 => ?_
    refine T_region ?_
    refine L_y (y_move rfl) rfl ?_
    refine L_y (y_move rfl) rfl ?_
    refine L_y (y_nilp rfl) rfl ?_
    refine L_y (y_fieldA 1 Try.underlying68 rfl sz3 rfl rfl rfl) rfl ?_
    refine L_y (y_ldc Try.underlying3 rfl rfl (((S1.get 0 rfl).1.cell _).trans (by rfl))) rfl ?_
    refine L_defer rfl ?_
    refine L_nil ?_
    refine hK5 _ _ ?_
    refine T_seq fun K6 hK6 => ?_
    refine T_region ?_
    refine L_y (y_move rfl) rfl ?_
    refine L_o (o_call Try.func38 rfl rfl (rnumber g A n c l p w1 (S1.get 0 rfl) hp hn62) rfl rfl ?_)
    rintro e2 w2 ⟨v2, rfl, rfl, T2⟩
    refine ⟨_, rfl, ?_⟩
    have S2 := S1.turn 0 rfl T2
    refine L_y (y_assign rfl) rfl ?_
    refine L_nil ?_
    refine hK6 _ _ ?_
    refine T_seq fun K7 hK7 => ?_
    refine T_seq fun K8 hK8 => ?_
    refine T_region ?_
    refine L_y (y_move rfl) rfl ?_
    refine L_y (y_nilp rfl) rfl ?_
    refine L_y (y_fieldA 2 Try.underlying68 rfl sz40 rfl rfl rfl) rfl ?_
    refine L_y (y_ldc Try.underlying40 rfl rfl (((S2.get 0 rfl).1.cell _).trans (by rfl))) rfl ?_
    refine L_y (y_eql rfl rfl) rfl ?_
    refine L_y (y_move rfl) rfl ?_
    refine L_split 20 rfl (fun h20 => ?_) (fun h20 => ?_)
    ·
      refine L_gyes rfl rfl ?_
      refine L_y (y_move rfl) rfl ?_
      refine L_gyes rfl rfl ?_
      refine L_y (y_move rfl) rfl ?_
      refine L_gyes rfl rfl ?_
      refine L_y (y_gtr rfl rfl) rfl ?_
      refine L_y (y_pk rfl rfl) rfl ?_
      refine L_nil ?_
      refine hK8 _ _ ?_
      refine T_cond rfl (fun h24 => ?_) (fun h24 => ?_)
      ·
        refine T_region ?_
        refine L_y (y_move rfl) rfl ?_
        refine L_y (y_nilp rfl) rfl ?_
        have S4 := split1 S2 (rdr_apart (S2.get 0 rfl))
        refine L_y (y_fieldA 2 Try.underlying68 rfl sz40 rfl rfl rfl) rfl ?_
        refine L_o (o_st1 S4 0 rfl rfl rfl rfl sz40 (by simp; done) fun w5 S5 => ?_)
        have S6 := Rdd.join S5 (q' := 3) rfl
        refine L_nil ?_
        refine hK7 _ _ ?_
        refine T_seq fun K9 hK9 => ?_
        refine T_seq fun K10 hK10 => ?_
        refine T_region ?_
        refine L_y (y_move rfl) rfl ?_
        refine L_y (y_nilp rfl) rfl ?_
        refine L_y (y_fieldA 2 Try.underlying68 rfl sz40 rfl rfl rfl) rfl ?_
        refine L_y (y_ldc Try.underlying40 rfl rfl (((S6.get 0 rfl).1.cell _).trans (by rfl))) rfl ?_
        refine L_y (y_neq rfl rfl) rfl ?_
        refine L_nil ?_
        refine hK10 _ _ ?_
        refine T_cond rfl (fun h32 => ?_) (fun h32 => ?_)
        ·
          refine T_seq fun K11 hK11 => ?_
          refine T_region ?_
          refine L_y (y_assign rfl) rfl ?_
          refine L_nil ?_
          refine hK11 _ _ ?_
          refine T_ret ?_
          refine ur ?_
          refine retD1 (f := 37) rfl rfl rfl Try.func37 rfl rfl (rback g A n c l _ _ p w5 (S6.get 0 rfl)) ?_
          rintro e7 w7 ⟨v7, rfl, T7⟩
          refine ⟨_, rfl, ?_⟩
          have S7 := S6.turn 0 rfl T7
          have hV : vaN l p 0 m = (0, p, 3) := by rw [vaN, if_neg (by omega), if_neg (by omega), if_pos (by omega)]
          exact ⟨_, rfl, by rw [hV]; rfl, by rw [hV]; exact Rdd.turned (S7.turned1 0 rfl) (if_pos (by decide)) rfl⟩
        ·
          refine T_skip ?_
          refine hK9 _ _ ?_
          refine T_seq fun K12 hK12 => ?_
          refine T_region ?_
          refine L_y (y_move rfl) rfl ?_
          refine L_y (y_assign rfl) rfl ?_
          refine L_nil ?_
          refine hK12 _ _ ?_
          refine T_ret ?_
          refine ur ?_
          refine retD1 (f := 37) rfl rfl rfl Try.func37 rfl rfl (rback g A n c l _ _ p w5 (S6.get 0 rfl)) ?_
          rintro e8 w8 ⟨v8, rfl, T8⟩
          refine ⟨_, rfl, ?_⟩
          have S8 := S6.turn 0 rfl T8
          exfalso
          omega
      ·
        refine T_skip ?_
        refine hK7 _ _ ?_
        refine T_seq fun K13 hK13 => ?_
        refine T_seq fun K14 hK14 => ?_
        refine T_region ?_
        refine L_y (y_move rfl) rfl ?_
        refine L_y (y_nilp rfl) rfl ?_
        refine L_y (y_fieldA 2 Try.underlying68 rfl sz40 rfl rfl rfl) rfl ?_
        refine L_y (y_ldc Try.underlying40 rfl rfl (((S2.get 0 rfl).1.cell _).trans (by rfl))) rfl ?_
        refine L_y (y_neq rfl rfl) rfl ?_
        refine L_nil ?_
        refine hK14 _ _ ?_
        refine T_cond rfl (fun h32 => ?_) (fun h32 => ?_)
        ·
          refine T_seq fun K15 hK15 => ?_
          refine T_region ?_
          refine L_y (y_assign rfl) rfl ?_
          refine L_nil ?_
          refine hK15 _ _ ?_
          refine T_ret ?_
          refine ur ?_
          refine retD1 (f := 37) rfl rfl rfl Try.func37 rfl rfl (rback g A n c l _ _ p w2 (S2.get 0 rfl)) ?_
          rintro e9 w9 ⟨v9, rfl, T9⟩
          refine ⟨_, rfl, ?_⟩
          have S9 := S2.turn 0 rfl T9
          exfalso
          omega
        ·
          refine T_skip ?_
          refine hK13 _ _ ?_
          refine T_seq fun K16 hK16 => ?_
          refine T_region ?_
          refine L_y (y_move rfl) rfl ?_
          refine L_y (y_assign rfl) rfl ?_
          refine L_nil ?_
          refine hK16 _ _ ?_
          refine T_ret ?_
          refine ur ?_
          refine retD1 (f := 37) rfl rfl rfl Try.func37 rfl rfl (rback g A n c l _ _ p w2 (S2.get 0 rfl)) ?_
          rintro e10 w10 ⟨v10, rfl, T10⟩
          refine ⟨_, rfl, ?_⟩
          have S10 := S2.turn 0 rfl T10
          have hV : vaN l p 0 m = ((numF (l.drop p) 0 0).1, p + (numF (l.drop p) 0 0).2.1, 0) := by rw [vaN, if_neg (by omega), if_neg (by omega), if_neg (by omega)]
          exact ⟨_, rfl, by rw [hV], by rw [hV]; exact Rdd.turned (S10.turned1 0 rfl) (if_neg (by omega)) (show (numF (l.drop p) 0 0).2.2 = 0 by omega)⟩
    ·
      refine L_gno rfl rfl rfl ?_
      refine L_gno rfl rfl rfl ?_
      refine L_gno rfl rfl rfl ?_
      refine L_y (y_pk rfl rfl) rfl ?_
      refine L_nil ?_
      refine hK8 _ _ ?_
      refine T_false rfl ?_
      refine T_skip ?_
      refine hK7 _ _ ?_
      refine T_seq fun K17 hK17 => ?_
      refine T_seq fun K18 hK18 => ?_
      refine T_region ?_
      refine L_y (y_move rfl) rfl ?_
      refine L_y (y_nilp rfl) rfl ?_
      refine L_y (y_fieldA 2 Try.underlying68 rfl sz40 rfl rfl rfl) rfl ?_
      refine L_y (y_ldc Try.underlying40 rfl rfl (((S2.get 0 rfl).1.cell _).trans (by rfl))) rfl ?_
      refine L_y (y_neq rfl rfl) rfl ?_
      refine L_nil ?_
      refine hK18 _ _ ?_
      refine T_cond rfl (fun h32 => ?_) (fun h32 => ?_)
      ·
        refine T_seq fun K19 hK19 => ?_
        refine T_region ?_
        refine L_y (y_assign rfl) rfl ?_
        refine L_nil ?_
        refine hK19 _ _ ?_
        refine T_ret ?_
        refine ur ?_
        refine retD1 (f := 37) rfl rfl rfl Try.func37 rfl rfl (rback g A n c l _ _ p w2 (S2.get 0 rfl)) ?_
        rintro e11 w11 ⟨v11, rfl, T11⟩
        refine ⟨_, rfl, ?_⟩
        have S11 := S2.turn 0 rfl T11
        have hV : vaN l p 0 m = (0, p, (numF (l.drop p) 0 0).2.2) := by rw [vaN, if_neg (by omega), if_pos (by omega)]
        exact ⟨_, rfl, by rw [hV]; rfl, by rw [hV]; exact Rdd.turned (S11.turned1 0 rfl) (if_pos (by omega)) rfl⟩
      ·
        refine T_skip ?_
        refine hK17 _ _ ?_
        refine T_seq fun K20 hK20 => ?_
        refine T_region ?_
        refine L_y (y_move rfl) rfl ?_
        refine L_y (y_assign rfl) rfl ?_
        refine L_nil ?_
        refine hK20 _ _ ?_
        refine T_ret ?_
        refine ur ?_
        refine retD1 (f := 37) rfl rfl rfl Try.func37 rfl rfl (rback g A n c l _ _ p w2 (S2.get 0 rfl)) ?_
        rintro e12 w12 ⟨v12, rfl, T12⟩
        refine ⟨_, rfl, ?_⟩
        have S12 := S2.turn 0 rfl T12
        exfalso
        omega


theorem numF_le : ∀ (r : List UInt8) (k a : Nat), (numF r k a).2.1 ≤ k + r.length
  | [], k, a => by simp [numF]
  | c :: r, k, a => by
    have h := numF_le r (k + 1) (a + c.toNat % 128 * 128 ^ k)
    unfold numF
    split
    · simp
    · split
      · simp
      · simp only [List.length_cons]
        omega
theorem numF_at (l : List UInt8) (p : Nat) (h : p ≤ l.length) : p + (numF (l.drop p) 0 0).2.1 ≤ l.length := by
  have := numF_le (l.drop p) 0 0
  rw [List.length_drop] at this
  omega
/-- What reading a text up to m gives, where it ends, and what is wrong then. -/
def txN (l : List UInt8) (p q : Nat) (m : Int) : List UInt8 × Nat × Nat :=
  if q ≠ 0 then ([], p, q) else if (numF (l.drop p) 0 0).2.2 ≠ 0 then ([], p, (numF (l.drop p) 0 0).2.2) else if m < 0 ∨ m < (numF (l.drop p) 0 0).1 then ([], p, 3)
  else if (numF (l.drop p) 0 0).1 ≤ l.length - (p + (numF (l.drop p) 0 0).2.1) then (tkL l (p + (numF (l.drop p) 0 0).2.1) (numF (l.drop p) 0 0).1, p + (numF (l.drop p) 0 0).2.1 + (numF (l.drop p) 0 0).1, 0) else ([], p, 10)
/-- What reading so many bytes gives. -/
def rnL (l : List UInt8) (p q : Nat) (m : Int) : List UInt8 := if m < 0 then [] else rwL l p q m.toNat
def rnP (l : List UInt8) (p q : Nat) (m : Int) : Nat := if m < 0 then p else rwP l p q m.toNat
def rnE (l : List UInt8) (p q : Nat) (m : Int) : Nat := if m < 0 then (if q ≠ 0 then q else 3) else rwE l p q m.toNat


set_option maxRecDepth 100000 in
theorem rtext (g : Nat) (A : Option Addr) (n c : Nat) (l : List UInt8) (p q : Nat) (m : Int) (w0 : World) (hw : (rdr g A n c l p q).holds w0) (hp : p ≤ l.length) (hn62 : n ≤ 4611686018427387904) (hm : m ≤ 9223372036854775807) :
    Calls Try.prog 17 #[.pointer (some ⟨g, 0, none⟩), .int .i64 m] w0 fun e w' => ∃ u, e = .returned u ∧ u = .string ⟨(txN l p q m).1.toArray⟩ ∧ Turned w0 w' (rdr g A n c l p q) (rdr g A n c l (txN l p q m).2.1 (txN l p q m).2.2) := by
  refine enterD1 (env := [(0, .pointer (some ⟨g, 0, none⟩)), (1, .int .i64 m)]) [.pointer (some ⟨g, 0, none⟩), .int .i64 m] Try.func17 rfl Try.ntmps17 rfl rfl ?_
  have hnl := rdr_len hw; have hnc := ownsRow_cap hw.2; have S0 := St.borrow1 (rdr g A n c l p q) hw (rdr_lt hw)
  refine T_seq fun K1 hK1 => ?_
  refine T_region ?_
  refine L_y (y_assign rfl) rfl ?_
  refine L_nil ?_
  refine hK1 _ _ ?_
  refine T_seq fun K2 hK2 => ?_
  refine T_seq fun K3 hK3 => ?_
  refine T_region ?_
  refine L_y (y_move rfl) rfl ?_
  refine L_o (o_call Try.func36 rfl rfl (rdead g A n c l p _ w0 (S0.get 0 rfl) hp) rfl rfl ?_)
  rintro e1 w1 ⟨v1, rfl, l1, rfl⟩
  refine ⟨_, rfl, ?_⟩
  have S1 := S0.like l1
  refine L_nil ?_
  refine hK3 _ _ ?_
  refine T_cond rfl (fun h7 => ?_) (fun h7 => ?_)
  ·
    refine T_seq fun K4 hK4 => ?_
    refine T_region ?_
    refine L_y (y_assign rfl) rfl ?_
    refine L_nil ?_
    refine hK4 _ _ ?_
    refine T_ret ?_
    refine ur ?_
    refine retd1 rfl rfl ?_
    have hV : txN l p q m = ([], p, q) := by rw [txN, if_pos (by omega)]
    exact ⟨_, rfl, by rw [hV], by rw [hV]; exact Rdd.turned (S1.turned1 0 rfl) rfl rfl⟩
  ·
    have hq : q = 0 := by omega
    subst hq
    refine T_skip ?_
    refine hK2 _ _ ?_
    refine T_seq fun K5 hK5 => ?_
    refine T_region ?_
    refine L_y (y_move rfl) rfl ?_
    refine L_y (y_move rfl) rfl ?_
    refine L_y (y_nilp rfl) rfl ?_
    refine L_y (y_fieldA 1 Try.underlying68 rfl sz3 rfl rfl rfl) rfl ?_
    refine L_y (y_ldc Try.underlying3 rfl rfl (((S1.get 0 rfl).1.cell _).trans (by rfl))) rfl ?_
    refine L_defer rfl ?_
    refine L_nil ?_
    refine hK5 _ _ ?_
    refine T_seq fun K6 hK6 => ?_
    refine T_region ?_
    refine L_y (y_move rfl) rfl ?_
    refine L_o (o_call Try.func38 rfl rfl (rnumber g A n c l p w1 (S1.get 0 rfl) hp hn62) rfl rfl ?_)
    rintro e2 w2 ⟨v2, rfl, rfl, T2⟩
    refine ⟨_, rfl, ?_⟩
    have S2 := S1.turn 0 rfl T2
    have hat := numF_at l p hp
    refine L_y (y_assign rfl) rfl ?_
    refine L_nil ?_
    refine hK6 _ _ ?_
    refine T_seq fun K7 hK7 => ?_
    refine T_seq fun K8 hK8 => ?_
    refine T_region ?_
    refine L_y (y_move rfl) rfl ?_
    refine L_y (y_nilp rfl) rfl ?_
    refine L_y (y_fieldA 2 Try.underlying68 rfl sz40 rfl rfl rfl) rfl ?_
    refine L_y (y_ldc Try.underlying40 rfl rfl (((S2.get 0 rfl).1.cell _).trans (by rfl))) rfl ?_
    refine L_y (y_neq rfl rfl) rfl ?_
    refine L_nil ?_
    refine hK8 _ _ ?_
    refine T_cond rfl (fun h19 => ?_) (fun h19 => ?_)
    ·
      refine T_seq fun K9 hK9 => ?_
      refine T_region ?_
      refine L_y (y_assign rfl) rfl ?_
      refine L_nil ?_
      refine hK9 _ _ ?_
      refine T_ret ?_
      refine ur ?_
      refine retD1 (f := 37) rfl rfl rfl Try.func37 rfl rfl (rback g A n c l _ _ p w2 (S2.get 0 rfl)) ?_
      rintro e3 w3 ⟨v3, rfl, T3⟩
      refine ⟨_, rfl, ?_⟩
      have S3 := S2.turn 0 rfl T3
      have hV : txN l p 0 m = ([], p, (numF (l.drop p) 0 0).2.2) := by rw [txN, if_neg (by omega), if_pos (by omega)]
      exact ⟨_, rfl, by rw [hV], by rw [hV]; exact Rdd.turned (S3.turned1 0 rfl) (if_pos (by omega)) rfl⟩
    ·
      refine T_skip ?_
      refine hK7 _ _ ?_
      refine T_seq fun K10 hK10 => ?_
      refine T_seq fun K11 hK11 => ?_
      refine T_region ?_
      refine L_y (y_move rfl) rfl ?_
      refine L_y (y_lss rfl rfl) rfl ?_
      refine L_y (y_move rfl) rfl ?_
      refine L_split 22 rfl (fun h22 => ?_) (fun h22 => ?_)
      ·
        refine L_gno rfl rfl rfl ?_
        refine L_gno rfl rfl rfl ?_
        refine L_gno rfl rfl rfl ?_
        refine L_gno rfl rfl rfl ?_
        refine L_y (y_pk rfl rfl) rfl ?_
        refine L_nil ?_
        refine hK11 _ _ ?_
        refine T_true rfl ?_
        refine T_seq fun K12 hK12 => ?_
        refine T_region ?_
        refine L_y (y_move rfl) rfl ?_
        refine L_y (y_nilp rfl) rfl ?_
        have S5 := split1 S2 (rdr_apart (S2.get 0 rfl))
        refine L_y (y_fieldA 2 Try.underlying68 rfl sz40 rfl rfl rfl) rfl ?_
        refine L_o (o_st1 S5 0 rfl rfl rfl rfl sz40 (by simp; done) fun w6 S6 => ?_)
        have S7 := Rdd.join S6 (q' := 3) rfl
        refine L_nil ?_
        refine hK12 _ _ ?_
        refine T_seq fun K13 hK13 => ?_
        refine T_region ?_
        refine L_y (y_assign rfl) rfl ?_
        refine L_nil ?_
        refine hK13 _ _ ?_
        refine T_ret ?_
        refine ur ?_
        refine retD1 (f := 37) rfl rfl rfl Try.func37 rfl rfl (rback g A n c l _ _ p w6 (S7.get 0 rfl)) ?_
        rintro e8 w8 ⟨v8, rfl, T8⟩
        refine ⟨_, rfl, ?_⟩
        have S8 := S7.turn 0 rfl T8
        have hV : txN l p 0 m = ([], p, 3) := by rw [txN, if_neg (by omega), if_neg (by omega), if_pos (by omega)]
        exact ⟨_, rfl, by rw [hV], by rw [hV]; exact Rdd.turned (S8.turned1 0 rfl) (if_pos (by decide)) rfl⟩
      ·
        refine L_gyes rfl rfl ?_
        refine L_y (y_move rfl) rfl ?_
        refine L_gyes rfl rfl ?_
        refine L_y (y_move rfl) rfl ?_
        refine L_gyes rfl rfl ?_
        refine L_y (y_conv is3 Try.underlying27 rfl (u64w (by omega))) rfl ?_
        refine L_gyes rfl rfl ?_
        refine L_y (y_gtr rfl rfl) rfl ?_
        refine L_y (y_pk rfl rfl) rfl ?_
        refine L_nil ?_
        refine hK11 _ _ ?_
        refine T_cond rfl (fun h27 => ?_) (fun h27 => ?_)
        ·
          refine T_seq fun K14 hK14 => ?_
          refine T_region ?_
          refine L_y (y_move rfl) rfl ?_
          refine L_y (y_nilp rfl) rfl ?_
          have S9 := split1 S2 (rdr_apart (S2.get 0 rfl))
          refine L_y (y_fieldA 2 Try.underlying68 rfl sz40 rfl rfl rfl) rfl ?_
          refine L_o (o_st1 S9 0 rfl rfl rfl rfl sz40 (by simp; done) fun w10 S10 => ?_)
          have S11 := Rdd.join S10 (q' := 3) rfl
          refine L_nil ?_
          refine hK14 _ _ ?_
          refine T_seq fun K15 hK15 => ?_
          refine T_region ?_
          refine L_y (y_assign rfl) rfl ?_
          refine L_nil ?_
          refine hK15 _ _ ?_
          refine T_ret ?_
          refine ur ?_
          refine retD1 (f := 37) rfl rfl rfl Try.func37 rfl rfl (rback g A n c l _ _ p w10 (S11.get 0 rfl)) ?_
          rintro e12 w12 ⟨v12, rfl, T12⟩
          refine ⟨_, rfl, ?_⟩
          have S12 := S11.turn 0 rfl T12
          have hV : txN l p 0 m = ([], p, 3) := by rw [txN, if_neg (by omega), if_neg (by omega), if_pos (by omega)]
          exact ⟨_, rfl, by rw [hV], by rw [hV]; exact Rdd.turned (S12.turned1 0 rfl) (if_pos (by decide)) rfl⟩
        ·
          refine T_skip ?_
          refine hK10 _ _ ?_
          refine T_seq fun K16 hK16 => ?_
          refine T_region ?_
          refine L_y (y_move rfl) rfl ?_
          refine L_y (y_move rfl) rfl ?_
          refine L_y (y_conv is27 Try.underlying3 rfl (i64w (by omega))) rfl ?_
          refine L_o (o_call Try.func39 rfl rfl (rtake g A n c l (p + (numF (l.drop p) 0 0).2.1) _ (numF (l.drop p) 0 0).1 w2 (S2.get 0 rfl) hat (by omega) hn62) rfl rfl ?_)
          rintro e13 w13 ⟨v13, rfl, B13, d13, rfl, RR, T13⟩
          refine ⟨_, rfl, ?_⟩
          have S13 := S2.turn 0 rfl T13
          refine L_y (y_bstr Try.underlying25 Try.underlying5 Try.underlying9 rfl RR) rfl ?_
          refine L_y (y_assign rfl) rfl ?_
          refine L_nil ?_
          refine hK16 _ _ ?_
          refine T_ret ?_
          refine ur ?_
          refine retD1 (f := 37) rfl rfl rfl Try.func37 rfl rfl (rback g A n c l _ _ p w13 (S13.get 0 rfl)) ?_
          rintro e14 w14 ⟨v14, rfl, T14⟩
          refine ⟨_, rfl, ?_⟩
          have S14 := S13.turn 0 rfl T14
          by_cases hk : (numF (l.drop p) 0 0).1 ≤ l.length - (p + (numF (l.drop p) 0 0).2.1)
          · have hV : txN l p 0 m = (tkL l (p + (numF (l.drop p) 0 0).2.1) (numF (l.drop p) 0 0).1, p + (numF (l.drop p) 0 0).2.1 + (numF (l.drop p) 0 0).1, 0) := by rw [txN, if_neg (by omega), if_neg (by omega), if_neg (by omega), if_pos hk]
            have hT := S14.turned1 (k := 0) (r' := _) rfl
            rw [tkE_ok hk, tkP, if_pos hk, if_neg (by omega)] at hT
            exact ⟨_, rfl, by rw [hV], by rw [hV]; exact Rdd.turned hT rfl (show (numF (l.drop p) 0 0).2.2 = 0 by omega)⟩
          · have hV : txN l p 0 m = ([], p, 10) := by rw [txN, if_neg (by omega), if_neg (by omega), if_neg (by omega), if_neg hk]
            have hT := S14.turned1 (k := 0) (r' := _) rfl
            rw [tkE_no hk, if_pos (by decide)] at hT
            exact ⟨_, rfl, by rw [hV, tkL_no hk], by rw [hV]; exact hT⟩


theorem rdr_same {g n c p q p' q' : Nat} {A : Option Addr} {l : List UInt8} {i : Nat} (h : (rdr g A n c l p q).dom i) : (rdr g A n c l p' q').dom i := h


set_option maxRecDepth 100000 in
theorem rraw (g : Nat) (A : Option Addr) (n c : Nat) (l : List UInt8) (p q : Nat) (m : Int) (w0 : World) (hw : (rdr g A n c l p q).holds w0) (hp : p ≤ l.length) (hn62 : n ≤ 140737488355300) (hm : m ≤ 9223372036854775807) :
    Calls Try.prog 27 #[.pointer (some ⟨g, 0, none⟩), .int .i64 m] w0 fun e w' => ∃ u, e = .returned u ∧ Turned w0 w' (rdr g A n c l p q) (rdr g A n c l (rnP l p q m) (rnE l p q m)) ∧ ∃ B c2, u = .slice B (rnL l p q m).length c2 ∧ (row 5 1 B (rnL l p q m).length c2 (bL (rnL l p q m))).holds w' ∧ ∀ i, (row 5 1 B (rnL l p q m).length c2 (bL (rnL l p q m))).dom i → w0.heap.size ≤ i := by
  refine enter1 (env := [(0, .pointer (some ⟨g, 0, none⟩)), (1, .int .i64 m)]) [.pointer (some ⟨g, 0, none⟩), .int .i64 m] Try.func27 rfl Try.ntmps27 rfl rfl ?_
  have hnl := rdr_len hw; have hnc := ownsRow_cap hw.2; have S0 := St.borrow1 (rdr g A n c l p q) hw (rdr_lt hw)
  refine T_seq fun K1 hK1 => ?_
  refine T_region ?_
  refine L_y (y_assign rfl) rfl ?_
  refine L_nil ?_
  refine hK1 _ _ ?_
  refine T_seq fun K2 hK2 => ?_
  refine T_seq fun K3 hK3 => ?_
  refine T_region ?_
  refine L_y (y_move rfl) rfl ?_
  refine L_o (o_call Try.func36 rfl rfl (rdead g A n c l p _ w0 (S0.get 0 rfl) hp) rfl rfl ?_)
  rintro e1 w1 ⟨v1, rfl, l1, rfl⟩
  refine ⟨_, rfl, ?_⟩
  have S1 := S0.like l1
  refine L_nil ?_
  refine hK3 _ _ ?_
  refine T_cond rfl (fun h6 => ?_) (fun h6 => ?_)
  ·
    refine T_seq fun K4 hK4 => ?_
    refine T_region ?_
    refine L_y (y_assign rfl) rfl ?_
    refine L_nil ?_
    refine hK4 _ _ ?_
    refine T_ret ?_
    refine ur ?_
    refine ret1 rfl rfl ?_
    have e1 : rnL l p q m = [] := by unfold rnL rwL; split; rfl; rw [if_neg (by omega)]
    have e2 : rnP l p q m = p := by unfold rnP rwP; split; rfl; rw [if_neg (by omega)]
    have e3 : rnE l p q m = q := by unfold rnE rwE; split; rw [if_pos (by omega)]; rw [if_neg (by omega)]
    exact ⟨_, rfl, by rw [e2, e3]; exact S1.turned1 0 rfl, none, 0, by rw [e1]; rfl, by rw [e1]; exact ⟨by simp [bL], .inl ⟨rfl, rfl⟩⟩, fun i hi => by rw [e1] at hi; simp [row, Value.ownBlock] at hi⟩
  ·
    have hq : q = 0 := by omega
    subst hq
    refine T_skip ?_
    refine hK2 _ _ ?_
    refine T_seq fun K5 hK5 => ?_
    refine T_seq fun K6 hK6 => ?_
    refine T_region ?_
    refine L_y (y_move rfl) rfl ?_
    refine L_y (y_lss rfl rfl) rfl ?_
    refine L_nil ?_
    refine hK6 _ _ ?_
    refine T_cond rfl (fun h8 => ?_) (fun h8 => ?_)
    ·
      refine T_seq fun K7 hK7 => ?_
      refine T_region ?_
      refine L_y (y_move rfl) rfl ?_
      refine L_y (y_move rfl) rfl ?_
      refine L_y (y_nilp rfl) rfl ?_
      refine L_y (y_fieldA 1 Try.underlying68 rfl sz3 rfl rfl rfl) rfl ?_
      refine L_y (y_ldc Try.underlying3 rfl rfl (((S1.get 0 rfl).1.cell _).trans (by rfl))) rfl ?_
      refine L_o (o_call Try.func45 rfl rfl (rfail g A n c l _ _ p 3 w1 (S1.get 0 rfl) hp) rfl rfl ?_)
      rintro e2 w2 ⟨v2, rfl, T2⟩
      refine ⟨_, rfl, ?_⟩
      have S2 := S1.turn 0 rfl T2
      refine L_nil ?_
      refine hK7 _ _ ?_
      refine T_seq fun K8 hK8 => ?_
      refine T_region ?_
      refine L_y (y_assign rfl) rfl ?_
      refine L_nil ?_
      refine hK8 _ _ ?_
      refine T_ret ?_
      refine ur ?_
      refine ret1 rfl rfl ?_
      have e1 : rnL l p 0 m = [] := by rw [rnL, if_pos (by omega)]
      have e2 : rnP l p 0 m = p := by rw [rnP, if_pos (by omega)]
      have e3 : rnE l p 0 m = 3 := by rw [rnE, if_pos (by omega)]; rfl
      exact ⟨_, rfl, by rw [e2, e3]; exact S2.turned1 0 rfl, none, 0, by rw [e1]; rfl, by rw [e1]; exact ⟨by simp [bL], .inl ⟨rfl, rfl⟩⟩, fun i hi => by rw [e1] at hi; simp [row, Value.ownBlock] at hi⟩
    ·
      obtain ⟨k, rfl⟩ : ∃ k : Nat, m = (k : Int) := ⟨m.toNat, by omega⟩
      refine T_skip ?_
      refine hK5 _ _ ?_
      refine T_seq fun K9 hK9 => ?_
      refine T_region ?_
      refine L_y (y_move rfl) rfl ?_
      refine L_y (y_move rfl) rfl ?_
      refine L_o (o_call Try.func39 rfl rfl (rtake g A n c l p _ k w1 (S1.get 0 rfl) hp (by omega) (by omega)) rfl rfl ?_)
      rintro e3 w3 ⟨v3, rfl, B3, d3, rfl, RR, T3⟩
      refine ⟨_, rfl, ?_⟩
      have S3 := S1.turn 0 rfl T3
      have htl := tk_le l p k
      have htn : (tkL l p k).length ≤ l.length := by unfold tkL; split; simp; omega; simp
      refine L_o (o_app0 te25 S3 rfl rfl (RR) (bL_one _) rfl (by omega) (by omega) fun A4 c4 w4 S4 => ?_)
      refine L_y (y_assign rfl) rfl ?_
      refine L_nil ?_
      refine hK9 _ _ ?_
      refine T_ret ?_
      refine ur ?_
      refine ret1 rfl rfl ?_
      have e1 : rnL l p 0 (k : Int) = tkL l p k := by rw [rnL, if_neg (by omega), rwL, if_pos rfl, Int.toNat_natCast]
      have e2 : rnP l p 0 (k : Int) = tkP l p k := by rw [rnP, if_neg (by omega), rwP, if_pos rfl, Int.toNat_natCast]
      have e3 : rnE l p 0 (k : Int) = tkE l p k 0 := by rw [rnE, if_neg (by omega), rwE, if_pos rfl, Int.toNat_natCast]
      exact ⟨_, rfl, by rw [e2, e3]; exact S4.turned1 0 rfl, _, _, by rw [e1], by rw [e1]; exact S4.get 1 rfl, fun i hi => by rw [e1] at hi; have h9 := (S4.res _ (List.mem_of_getElem? (show _ = some _ from (rfl : [rdr g A n c l (tkP l p k) (tkE l p k 0), _][1]? = some _)))).2 i hi; rcases h9.2 with h9 | h9; exact h9; exact absurd hi (St.apart_ S4 0 1 rfl rfl rfl i (rdr_same h9))⟩


set_option maxRecDepth 100000 in
theorem ru32 (g : Nat) (A : Option Addr) (n c : Nat) (l : List UInt8) (p q : Nat) (w0 : World) (hw : (rdr g A n c l p q).holds w0) (hp : p ≤ l.length) (hn62 : n ≤ 4611686018427387904) :
    Calls Try.prog 25 #[.pointer (some ⟨g, 0, none⟩)] w0 fun e w' => ∃ u, e = .returned u ∧ u = .int .u32 (be (rwL l p q 4) : Int) ∧ Turned w0 w' (rdr g A n c l p q) (rdr g A n c l (rwP l p q 4) (rwE l p q 4)) := by
  refine enter1 (env := [(0, .pointer (some ⟨g, 0, none⟩))]) [.pointer (some ⟨g, 0, none⟩)] Try.func25 rfl Try.ntmps25 rfl rfl ?_
  have hnl := rdr_len hw; have hnc := ownsRow_cap hw.2; have S0 := St.borrow1 (rdr g A n c l p q) hw (rdr_lt hw)
  refine T_seq fun K1 hK1 => ?_
  refine T_region ?_
  refine L_y (y_assign rfl) rfl ?_
  refine L_nil ?_
  refine hK1 _ _ ?_
  refine T_seq fun K2 hK2 => ?_
  refine T_seq fun K3 hK3 => ?_
  refine T_region ?_
  refine L_y (y_move rfl) rfl ?_
  refine L_o (o_call Try.func36 rfl rfl (rdead g A n c l p _ w0 (S0.get 0 rfl) hp) rfl rfl ?_)
  rintro e1 w1 ⟨v1, rfl, l1, rfl⟩
  refine ⟨_, rfl, ?_⟩
  have S1 := S0.like l1
  refine L_nil ?_
  refine hK3 _ _ ?_
  refine T_cond rfl (fun h7 => ?_) (fun h7 => ?_)
  ·
    refine T_seq fun K4 hK4 => ?_
    refine T_region ?_
    refine L_y (y_assign rfl) rfl ?_
    refine L_nil ?_
    refine hK4 _ _ ?_
    refine T_ret ?_
    refine ur ?_
    refine ret1 rfl rfl ?_
    first | exact ⟨_, rfl, by rw [rwL, if_neg (by omega)]; rfl, Rdd.turned (S1.turned1 0 rfl) (by rw [rwP, if_neg (by omega)]) (by rw [rwE, if_neg (by omega)])⟩ | exact ⟨_, rfl, by rw [rwL, if_pos rfl, List.take_length], Rdd.turned (S1.turned1 0 rfl) rfl rfl⟩
  ·
    have hq : q = 0 := by omega
    subst hq
    refine T_skip ?_
    refine hK2 _ _ ?_
    refine T_seq fun K5 hK5 => ?_
    refine T_region ?_
    refine L_y (y_assign rfl) rfl ?_
    refine L_nil ?_
    refine hK5 _ _ ?_
    refine T_seq fun K6 hK6 => ?_
    refine T_seq fun K7 hK7 => ?_
    refine T_region ?_
    refine L_y (y_move rfl) rfl ?_
    refine L_o (o_call Try.func39 rfl rfl (rtake g A n c l p _ 4 w1 (S1.get 0 rfl) hp (by omega) hn62) rfl rfl ?_)
    rintro e2 w2 ⟨v2, rfl, B2, d2, rfl, R2, T2⟩
    refine ⟨_, rfl, ?_⟩
    have S2 := S1.turn 0 rfl T2
    have RR := R2
    refine L_y (y_len Try.underlying25 rfl) rfl ?_
    refine L_y (y_move rfl) rfl ?_
    refine L_nil ?_
    refine hK7 _ _ ?_
    refine T_block ?_
    refine T_loop1 [(9, _), (10, _)] (fun (k : Nat) => [(3, .int .u32 (be ((tkL l p 4).take k) : Int)), (11, .int .i64 (k : Int))]) (fun (k : Nat) => (tkL l p 4).length - k) (fun (k : Nat) (w : World) => (k ≤ (tkL l p 4).length ∧ Rs w 1 B2 (tkL l p 4).length d2 (bL (tkL l p 4))) ∧ St w0 (rdr g A n c l p 0).dom [rdr g A n c l (tkP l p 4) (tkE l p 4 0)] w) 0 (Sub.cons rfl (by first | rfl | exact congrArg (Value.int _) (by omega)) (Sub.cons rfl (by first | rfl | exact congrArg (Value.int _) (by omega)) (Sub.nil _))) (Sub.cons rfl rfl (Sub.cons rfl rfl (Sub.nil _))) ?_ ?_
    ·
      exact ⟨⟨Nat.zero_le _, RR⟩, S2⟩
    ·
      intro k w3 hrel
      obtain ⟨⟨hk, RX⟩, S3⟩ := hrel
      have htl := tk_le l p 4
      refine T_seq fun K8 hK8 => ?_
      refine T_region ?_
      refine L_y (y_lss rfl rfl) rfl ?_
      refine L_nil ?_
      refine hK8 _ _ ?_
      refine T_seq fun K9 hK9 => ?_
      refine T_cond rfl (fun h12 => ?_) (fun h12 => ?_)
      ·
        obtain ⟨x, hx⟩ : ∃ x, (tkL l p 4)[k]? = some x := ⟨_, List.getElem?_eq_getElem (by omega)⟩
        have hxl := x.toNat_lt
        have hbb := be_bound (k := k) (j := 3) (show k < (tkL l p 4).length by omega) htl
        refine T_skip ?_
        refine hK9 _ _ ?_
        refine T_seq fun K10 hK10 => ?_
        refine T_block ?_
        refine T_seq fun K11 hK11 => ?_
        refine T_region ?_
        refine L_y (y_idx Try.underlying25 sz5 rfl rfl (RX) inferInstance (by omega)) rfl ?_
        refine L_y (y_ldr Try.underlying5 rfl rfl RX (bL_getX hx)) rfl ?_
        refine L_y (y_assign rfl) rfl ?_
        refine L_nil ?_
        refine hK11 _ _ ?_
        refine T_region ?_
        refine L_y (y_move rfl) rfl ?_
        refine L_y (y_shl rfl rfl (by omega) (shl8_32 _ hbb)) rfl ?_
        refine L_y (y_move rfl) rfl ?_
        refine L_y (y_conv is5 Try.underlying54 rfl (u32w (by omega))) rfl ?_
        refine L_y (y_bits rfl rfl rfl (orbe32 _ _ hbb)) rfl ?_
        refine L_y (y_assign rfl) rfl ?_
        refine L_nil ?_
        refine hK10 _ _ ?_
        refine T_region ?_
        refine L_y (y_add rfl rfl (i64w (by omega))) rfl ?_
        refine L_y (y_move rfl) rfl ?_
        refine L_nil ?_
        refine ⟨k + 1, by omega, ⟨⟨by omega, RX⟩, S3⟩, ?_⟩
        exact (Sub.cons rfl (congrArg (Value.int _) (by rw [be_take hx])) (Sub.cons rfl (by first | rfl | exact congrArg (Value.int _) (by omega)) (Sub.cons rfl rfl (Sub.cons rfl rfl (Sub.nil _)))))
      ·
        have hke : k = (tkL l p 4).length := by omega
        subst hke
        refine T_exit ?_
        refine hK6 _ _ ?_
        refine T_seq fun K12 hK12 => ?_
        refine T_region ?_
        refine L_y (y_move rfl) rfl ?_
        refine L_y (y_assign rfl) rfl ?_
        refine L_nil ?_
        refine hK12 _ _ ?_
        refine T_ret ?_
        refine ur ?_
        refine ret1 rfl rfl ?_
        first | exact ⟨_, rfl, by rw [rwL, if_neg (by omega)]; rfl, Rdd.turned (S3.turned1 0 rfl) (by rw [rwP, if_neg (by omega)]) (by rw [rwE, if_neg (by omega)])⟩ | exact ⟨_, rfl, by rw [rwL, if_pos rfl, List.take_length], Rdd.turned (S3.turned1 0 rfl) rfl rfl⟩


set_option maxRecDepth 100000 in
theorem ru64 (g : Nat) (A : Option Addr) (n c : Nat) (l : List UInt8) (p q : Nat) (w0 : World) (hw : (rdr g A n c l p q).holds w0) (hp : p ≤ l.length) (hn62 : n ≤ 4611686018427387904) :
    Calls Try.prog 26 #[.pointer (some ⟨g, 0, none⟩)] w0 fun e w' => ∃ u, e = .returned u ∧ u = .int .u64 (be (rwL l p q 8) : Int) ∧ Turned w0 w' (rdr g A n c l p q) (rdr g A n c l (rwP l p q 8) (rwE l p q 8)) := by
  refine enter1 (env := [(0, .pointer (some ⟨g, 0, none⟩))]) [.pointer (some ⟨g, 0, none⟩)] Try.func26 rfl Try.ntmps26 rfl rfl ?_
  have hnl := rdr_len hw; have hnc := ownsRow_cap hw.2; have S0 := St.borrow1 (rdr g A n c l p q) hw (rdr_lt hw)
  refine T_seq fun K1 hK1 => ?_
  refine T_region ?_
  refine L_y (y_assign rfl) rfl ?_
  refine L_nil ?_
  refine hK1 _ _ ?_
  refine T_seq fun K2 hK2 => ?_
  refine T_seq fun K3 hK3 => ?_
  refine T_region ?_
  refine L_y (y_move rfl) rfl ?_
  refine L_o (o_call Try.func36 rfl rfl (rdead g A n c l p _ w0 (S0.get 0 rfl) hp) rfl rfl ?_)
  rintro e1 w1 ⟨v1, rfl, l1, rfl⟩
  refine ⟨_, rfl, ?_⟩
  have S1 := S0.like l1
  refine L_nil ?_
  refine hK3 _ _ ?_
  refine T_cond rfl (fun h7 => ?_) (fun h7 => ?_)
  ·
    refine T_seq fun K4 hK4 => ?_
    refine T_region ?_
    refine L_y (y_assign rfl) rfl ?_
    refine L_nil ?_
    refine hK4 _ _ ?_
    refine T_ret ?_
    refine ur ?_
    refine ret1 rfl rfl ?_
    first | exact ⟨_, rfl, by rw [rwL, if_neg (by omega)]; rfl, Rdd.turned (S1.turned1 0 rfl) (by rw [rwP, if_neg (by omega)]) (by rw [rwE, if_neg (by omega)])⟩ | exact ⟨_, rfl, by rw [rwL, if_pos rfl, List.take_length], Rdd.turned (S1.turned1 0 rfl) rfl rfl⟩
  ·
    have hq : q = 0 := by omega
    subst hq
    refine T_skip ?_
    refine hK2 _ _ ?_
    refine T_seq fun K5 hK5 => ?_
    refine T_region ?_
    refine L_y (y_assign rfl) rfl ?_
    refine L_nil ?_
    refine hK5 _ _ ?_
    refine T_seq fun K6 hK6 => ?_
    refine T_seq fun K7 hK7 => ?_
    refine T_region ?_
    refine L_y (y_move rfl) rfl ?_
    refine L_o (o_call Try.func39 rfl rfl (rtake g A n c l p _ 8 w1 (S1.get 0 rfl) hp (by omega) hn62) rfl rfl ?_)
    rintro e2 w2 ⟨v2, rfl, B2, d2, rfl, R2, T2⟩
    refine ⟨_, rfl, ?_⟩
    have S2 := S1.turn 0 rfl T2
    have RR := R2
    refine L_y (y_len Try.underlying25 rfl) rfl ?_
    refine L_y (y_move rfl) rfl ?_
    refine L_nil ?_
    refine hK7 _ _ ?_
    refine T_block ?_
    refine T_loop1 [(9, _), (10, _)] (fun (k : Nat) => [(3, .int .u64 (be ((tkL l p 8).take k) : Int)), (11, .int .i64 (k : Int))]) (fun (k : Nat) => (tkL l p 8).length - k) (fun (k : Nat) (w : World) => (k ≤ (tkL l p 8).length ∧ Rs w 1 B2 (tkL l p 8).length d2 (bL (tkL l p 8))) ∧ St w0 (rdr g A n c l p 0).dom [rdr g A n c l (tkP l p 8) (tkE l p 8 0)] w) 0 (Sub.cons rfl (by first | rfl | exact congrArg (Value.int _) (by omega)) (Sub.cons rfl (by first | rfl | exact congrArg (Value.int _) (by omega)) (Sub.nil _))) (Sub.cons rfl rfl (Sub.cons rfl rfl (Sub.nil _))) ?_ ?_
    ·
      exact ⟨⟨Nat.zero_le _, RR⟩, S2⟩
    ·
      intro k w3 hrel
      obtain ⟨⟨hk, RX⟩, S3⟩ := hrel
      have htl := tk_le l p 8
      refine T_seq fun K8 hK8 => ?_
      refine T_region ?_
      refine L_y (y_lss rfl rfl) rfl ?_
      refine L_nil ?_
      refine hK8 _ _ ?_
      refine T_seq fun K9 hK9 => ?_
      refine T_cond rfl (fun h12 => ?_) (fun h12 => ?_)
      ·
        obtain ⟨x, hx⟩ : ∃ x, (tkL l p 8)[k]? = some x := ⟨_, List.getElem?_eq_getElem (by omega)⟩
        have hxl := x.toNat_lt
        have hbb := be_bound (k := k) (j := 7) (show k < (tkL l p 8).length by omega) htl
        refine T_skip ?_
        refine hK9 _ _ ?_
        refine T_seq fun K10 hK10 => ?_
        refine T_block ?_
        refine T_seq fun K11 hK11 => ?_
        refine T_region ?_
        refine L_y (y_idx Try.underlying25 sz5 rfl rfl (RX) inferInstance (by omega)) rfl ?_
        refine L_y (y_ldr Try.underlying5 rfl rfl RX (bL_getX hx)) rfl ?_
        refine L_y (y_assign rfl) rfl ?_
        refine L_nil ?_
        refine hK11 _ _ ?_
        refine T_region ?_
        refine L_y (y_move rfl) rfl ?_
        refine L_y (y_shl rfl rfl (by omega) (shl8_64 _ hbb)) rfl ?_
        refine L_y (y_move rfl) rfl ?_
        refine L_y (y_conv is5 Try.underlying27 rfl (u64w (by omega))) rfl ?_
        refine L_y (y_bits rfl rfl rfl (orbe64 _ _ hbb)) rfl ?_
        refine L_y (y_assign rfl) rfl ?_
        refine L_nil ?_
        refine hK10 _ _ ?_
        refine T_region ?_
        refine L_y (y_add rfl rfl (i64w (by omega))) rfl ?_
        refine L_y (y_move rfl) rfl ?_
        refine L_nil ?_
        refine ⟨k + 1, by omega, ⟨⟨by omega, RX⟩, S3⟩, ?_⟩
        exact (Sub.cons rfl (congrArg (Value.int _) (by rw [be_take hx])) (Sub.cons rfl (by first | rfl | exact congrArg (Value.int _) (by omega)) (Sub.cons rfl rfl (Sub.cons rfl rfl (Sub.nil _)))))
      ·
        have hke : k = (tkL l p 8).length := by omega
        subst hke
        refine T_exit ?_
        refine hK6 _ _ ?_
        refine T_seq fun K12 hK12 => ?_
        refine T_region ?_
        refine L_y (y_move rfl) rfl ?_
        refine L_y (y_assign rfl) rfl ?_
        refine L_nil ?_
        refine hK12 _ _ ?_
        refine T_ret ?_
        refine ur ?_
        refine ret1 rfl rfl ?_
        first | exact ⟨_, rfl, by rw [rwL, if_neg (by omega)]; rfl, Rdd.turned (S3.turned1 0 rfl) (by rw [rwP, if_neg (by omega)]) (by rw [rwE, if_neg (by omega)])⟩ | exact ⟨_, rfl, by rw [rwL, if_pos rfl, List.take_length], Rdd.turned (S3.turned1 0 rfl) rfl rfl⟩


set_option maxRecDepth 100000 in
theorem rbyte (g : Nat) (A : Option Addr) (n c : Nat) (l : List UInt8) (p q : Nat) (w0 : World) (hw : (rdr g A n c l p q).holds w0) (hp : p ≤ l.length) (hn62 : n ≤ 4611686018427387904) :
    Calls Try.prog 24 #[.pointer (some ⟨g, 0, none⟩)] w0 fun e w' => ∃ u, e = .returned u ∧ u = .int .u8 (be (rwL l p q 1) : Int) ∧ Turned w0 w' (rdr g A n c l p q) (rdr g A n c l (rwP l p q 1) (rwE l p q 1)) := by
  refine enter1 (env := [(0, .pointer (some ⟨g, 0, none⟩))]) [.pointer (some ⟨g, 0, none⟩)] Try.func24 rfl Try.ntmps24 rfl rfl ?_
  have hnl := rdr_len hw; have hnc := ownsRow_cap hw.2; have S0 := St.borrow1 (rdr g A n c l p q) hw (rdr_lt hw)
  refine T_seq fun K1 hK1 => ?_
  refine T_region ?_
  refine L_y (y_assign rfl) rfl ?_
  refine L_nil ?_
  refine hK1 _ _ ?_
  refine T_seq fun K2 hK2 => ?_
  refine T_seq fun K3 hK3 => ?_
  refine T_region ?_
  refine L_y (y_move rfl) rfl ?_
  refine L_o (o_call Try.func36 rfl rfl (rdead g A n c l p _ w0 (S0.get 0 rfl) hp) rfl rfl ?_)
  rintro e1 w1 ⟨v1, rfl, l1, rfl⟩
  refine ⟨_, rfl, ?_⟩
  have S1 := S0.like l1
  refine L_nil ?_
  refine hK3 _ _ ?_
  refine T_cond rfl (fun h5 => ?_) (fun h5 => ?_)
  ·
    refine T_seq fun K4 hK4 => ?_
    refine T_region ?_
    refine L_y (y_assign rfl) rfl ?_
    refine L_nil ?_
    refine hK4 _ _ ?_
    refine T_ret ?_
    refine ur ?_
    refine ret1 rfl rfl ?_
    first | exact ⟨_, rfl, by rw [rwL, if_neg (by omega)]; rfl, Rdd.turned (S1.turned1 0 rfl) (by rw [rwP, if_neg (by omega)]) (by rw [rwE, if_neg (by omega)])⟩ | (have hk := tkE_caseN h12; exact ⟨_, rfl, by rw [rwL, if_pos rfl, tkL_no hk]; rfl, Rdd.turned (S1.turned1 0 rfl) rfl rfl⟩) | exact ⟨_, rfl, by rw [rwL, if_pos rfl, htk]; simp [be], Rdd.turned (S1.turned1 0 rfl) rfl rfl⟩
  ·
    have hq : q = 0 := by omega
    subst hq
    refine T_skip ?_
    refine hK2 _ _ ?_
    refine T_seq fun K5 hK5 => ?_
    refine T_region ?_
    refine L_y (y_move rfl) rfl ?_
    refine L_o (o_call Try.func39 rfl rfl (rtake g A n c l p _ 1 w1 (S1.get 0 rfl) hp (by omega) hn62) rfl rfl ?_)
    rintro e2 w2 ⟨v2, rfl, B2, d2, rfl, R2, T2⟩
    refine ⟨_, rfl, ?_⟩
    have S2 := S1.turn 0 rfl T2
    have RR := R2
    refine L_y (y_assign rfl) rfl ?_
    refine L_nil ?_
    refine hK5 _ _ ?_
    refine T_seq fun K6 hK6 => ?_
    refine T_seq fun K7 hK7 => ?_
    refine T_region ?_
    refine L_y (y_move rfl) rfl ?_
    refine L_y (y_nilp rfl) rfl ?_
    refine L_y (y_fieldA 2 Try.underlying68 rfl sz40 rfl rfl rfl) rfl ?_
    refine L_y (y_ldc Try.underlying40 rfl rfl (((S2.get 0 rfl).1.cell _).trans (by rfl))) rfl ?_
    refine L_y (y_neq rfl rfl) rfl ?_
    refine L_nil ?_
    refine hK7 _ _ ?_
    refine T_cond rfl (fun h12 => ?_) (fun h12 => ?_)
    ·
      refine T_seq fun K8 hK8 => ?_
      refine T_region ?_
      refine L_y (y_assign rfl) rfl ?_
      refine L_nil ?_
      refine hK8 _ _ ?_
      refine T_ret ?_
      refine ur ?_
      refine ret1 rfl rfl ?_
      first | exact ⟨_, rfl, by rw [rwL, if_neg (by omega)]; rfl, Rdd.turned (S2.turned1 0 rfl) (by rw [rwP, if_neg (by omega)]) (by rw [rwE, if_neg (by omega)])⟩ | (have hk := tkE_caseN h12; exact ⟨_, rfl, by rw [rwL, if_pos rfl, tkL_no hk]; rfl, Rdd.turned (S2.turned1 0 rfl) rfl rfl⟩) | exact ⟨_, rfl, by rw [rwL, if_pos rfl, htk]; simp [be], Rdd.turned (S2.turned1 0 rfl) rfl rfl⟩
    ·
      have hk := tkE_case h12
      obtain ⟨x, hx, htk, hdr⟩ := tk_one hk
      rw [show bL (tkL l p 1) = bL [x] from congrArg bL htk] at RR
      refine T_skip ?_
      refine hK6 _ _ ?_
      refine T_seq fun K9 hK9 => ?_
      refine T_region ?_
      refine L_y (y_move rfl) rfl ?_
      refine L_y (y_idx Try.underlying25 sz5 rfl rfl (RR) inferInstance (by rw [tkL_ok hk]; decide)) rfl ?_
      refine L_y (y_ldr Try.underlying5 rfl rfl RR (show ([bV x])[0]? = some (Value.int .u8 (x.toNat : Int)) from rfl)) rfl ?_
      refine L_y (y_assign rfl) rfl ?_
      refine L_nil ?_
      refine hK9 _ _ ?_
      refine T_ret ?_
      refine ur ?_
      refine ret1 rfl rfl ?_
      first | exact ⟨_, rfl, by rw [rwL, if_neg (by omega)]; rfl, Rdd.turned (S2.turned1 0 rfl) (by rw [rwP, if_neg (by omega)]) (by rw [rwE, if_neg (by omega)])⟩ | (have hk := tkE_caseN h12; exact ⟨_, rfl, by rw [rwL, if_pos rfl, tkL_no hk]; rfl, Rdd.turned (S2.turned1 0 rfl) rfl rfl⟩) | exact ⟨_, rfl, by rw [rwL, if_pos rfl, htk]; simp [be], Rdd.turned (S2.turned1 0 rfl) rfl rfl⟩
end Go.Proofs.Ytcbnhmcfdpcbhaa


/-
  Numbers by sevens: what is read is what is written, and the other way round.
-/
namespace Go.Proofs.Ytcbnhmcfdpcbhaa
open Go.RowKit Zk Zx
set_option linter.unusedVariables false
theorem numF_max : ∀ (r : List UInt8) (k a : Nat), k ≤ 9 → a < 128 ^ k → (numF r k a).1 ≤ 18446744073709551615
  | [], k, a, hk, ha => by simp [numF]
  | c :: r, k, a, hk, ha => by
    have hc := c.toNat_lt
    rw [numF]
    split
    · simp
    · rename_i hF
      split
      · exact (num_lt hk ha (x := c.toNat) (by omega) (fun h => by omega)).2
      · exact numF_max r (k + 1) _ (by omega) (num_next ha)
theorem vaN_le (l : List UInt8) (p q m : Nat) (hp : p ≤ l.length) : (vaN l p q m).2.1 ≤ l.length := by
  unfold vaN
  have := numF_at l p hp
  repeat' split
  all_goals simp only; omega
theorem txN_le (l : List UInt8) (p q : Nat) (m : Int) (hp : p ≤ l.length) : (txN l p q m).2.1 ≤ l.length := by
  unfold txN
  have := numF_at l p hp
  repeat' split
  all_goals simp only; omega
end Go.Proofs.Ytcbnhmcfdpcbhaa
