import Derived.Test.YtgaklngnfecdaaaGreatMgPReads6
import Derived.Test.YtgaklngnfecdaaaGreatMgPReads3
import Derived.Test.YtgaklngnfecdaaaGreatMgPReads2
import Derived.Test.YtgaklngnfecdaaaGreatMgPReads5
set_option linter.unusedSimpArgs false
set_option linter.unusedVariables false
set_option maxRecDepth 100000
namespace Go.Proofs.YtgaklngnfecdaaaGreat.Oct
open Go.RowKit Zk Zx
def be (l : List UInt8) : Nat := l.foldl (fun n c => n * 256 + c.toNat) 0
def rwL (l : List UInt8) (p q k : Nat) : List UInt8 := if q = 0 then tkL l p k else []
def rwP (l : List UInt8) (p q k : Nat) : Nat := if q = 0 then tkP l p k else p
def rwE (l : List UInt8) (p q k : Nat) : Nat := if q = 0 then tkE l p k q else q
theorem tkL_ok {l : List UInt8} {p k : Nat} (h : k ≤ l.length - p) : (tkL l p k).length = k := by rw [tkL, if_pos h, List.length_take, List.length_drop]; omega
theorem tkE_ok {l : List UInt8} {p k q : Nat} (h : k ≤ l.length - p) : tkE l p k q = q := by rw [tkE, if_pos h]
theorem tkE_no {l : List UInt8} {p k q : Nat} (h : ¬ k ≤ l.length - p) : tkE l p k q = 10 := by rw [tkE, if_neg h]
theorem tkL_no {l : List UInt8} {p k : Nat} (h : ¬ k ≤ l.length - p) : tkL l p k = [] := by rw [tkL, if_neg h]
theorem tkE_case {l : List UInt8} {p k : Nat} (h : ¬ ((tkE l p k 0 : Nat) : Int) ≠ 0) : k ≤ l.length - p := by
  by_cases hk : k ≤ l.length - p
  · exact hk
  · rw [tkE_no hk] at h
    omega
theorem tkE_caseN {l : List UInt8} {p k : Nat} (h : ((tkE l p k 0 : Nat) : Int) ≠ 0) : ¬ k ≤ l.length - p := fun hk => by
  rw [tkE_ok hk] at h
  omega
theorem tk_one {l : List UInt8} {p : Nat} (h : 1 ≤ l.length - p) : ∃ x, l[p]? = some x ∧ tkL l p 1 = [x] ∧ l.drop p = x :: l.drop (p + 1) := by
  have hp : p < l.length := by omega
  refine ⟨l[p], List.getElem?_eq_getElem hp, ?_, List.drop_eq_getElem_cons hp⟩
  rw [tkL, if_pos h, List.drop_eq_getElem_cons hp, List.take_succ_cons, List.take_zero]
theorem be_snoc (l : List UInt8) (c : UInt8) : be (l ++ [c]) = be l * 256 + c.toNat := by simp [be, List.foldl_append]
theorem be_from : ∀ (l : List UInt8) (a : Nat), l.foldl (fun n c => n * 256 + c.toNat) a < (a + 1) * 256 ^ l.length
  | [], a => by simp
  | c :: l, a => by
    have h := be_from l (a * 256 + c.toNat)
    have h2 : (a * 256 + c.toNat + 1) * 256 ^ l.length ≤ (a + 1) * 256 * 256 ^ l.length := Nat.mul_le_mul_right _ (by have := c.toNat_lt; omega)
    rw [List.foldl_cons, List.length_cons, Nat.pow_succ, Nat.mul_comm (256 ^ l.length), ← Nat.mul_assoc]
    omega
theorem be_lt (l : List UInt8) : be l < 256 ^ l.length := by simpa [be] using be_from l 0
theorem be_take {l : List UInt8} {k : Nat} {c : UInt8} (h : l[k]? = some c) : be (l.take (k + 1)) = be (l.take k) * 256 + c.toNat := by
  rw [List.take_add_one, h]
  exact be_snoc _ _
def numF : List UInt8 → Nat → Nat → Nat × Nat × Nat
  | [], k, _ => (0, k, 10)
  | c :: r, k, a => if (k = 9 ∧ 1 < c.toNat) ∨ (0 < k ∧ c.toNat = 0) then (0, k + 1, 12) else if c.toNat < 128 then (a + c.toNat % 128 * 128 ^ k, k + 1, 0) else numF r (k + 1) (a + c.toNat % 128 * 128 ^ k)
theorem and127 : ∀ m : Fin 256, bits .and .u8 (m.val : Int) 127 = ((m.val % 128 : Nat) : Int) := by decide
theorem andX (x : UInt8) : bits .and .u8 (x.toNat : Int) 127 = ((x.toNat % 128 : Nat) : Int) := and127 ⟨x.toNat, x.toNat_lt⟩
theorem pow7 (k : Nat) : 128 ^ k = 2 ^ (7 * k) := by rw [show (128 : Nat) = 2 ^ 7 from rfl, ← Nat.pow_mul]
theorem pow_eight {k : Nat} (h : k ≤ 8) : 128 ^ k ≤ 72057594037927936 := by
  have := Nat.pow_le_pow_right (show 0 < 128 by decide) h
  exact this
theorem num_lt {k a x : Nat} (hk : k ≤ 9) (ha : a < 128 ^ k) (hx : x ≤ 255) (h9 : k = 9 → x ≤ 1) : x % 128 * 128 ^ k ≤ 18446744073709551615 ∧ a + x % 128 * 128 ^ k ≤ 18446744073709551615 := by
  by_cases h : k = 9
  · have h1 := h9 h
    subst h
    have h2 : x % 128 * 128 ^ 9 ≤ 1 * 128 ^ 9 := Nat.mul_le_mul_right _ (by omega)
    have h3 : (128 : Nat) ^ 9 = 9223372036854775808 := rfl
    omega
  · have h1 := pow_eight (k := k) (by omega)
    have h2 : x % 128 * 128 ^ k ≤ 127 * 128 ^ k := Nat.mul_le_mul_right _ (by omega)
    omega
theorem num_next {k a x : Nat} (ha : a < 128 ^ k) : a + x % 128 * 128 ^ k < 128 ^ (k + 1) := by
  have h2 : x % 128 * 128 ^ k ≤ 127 * 128 ^ k := Nat.mul_le_mul_right _ (by omega)
  rw [Nat.pow_succ]
  omega
theorem shl7 (x k : Nat) (hk : k ≤ 9) (h : x * 128 ^ k ≤ 18446744073709551615) : IntKind.u64.wrap ((x : Int) * 2 ^ (min ((7 : Int) * (k : Int)).toNat IntKind.u64.bits)) = ((x * 128 ^ k : Nat) : Int) := by
  have e : min ((7 : Int) * (k : Int)).toNat IntKind.u64.bits = 7 * k := by simp only [IntKind.bits]; omega
  rw [e, show (x : Int) * 2 ^ (7 * k) = ((x * 128 ^ k : Nat) : Int) by rw [pow7]; push_cast; rfl, IntKind.wrap_u64]
  omega
theorem or64 (a b : Nat) (ha : a < 18446744073709551616) (hb : b < 18446744073709551616) : bits .or .u64 (a : Int) (b : Int) = ((a ||| b : Nat) : Int) := by
  have h : a ||| b < 2 ^ 64 := Nat.or_lt_two_pow ha hb
  show IntKind.u64.wrap ((((BitVec.ofInt 64 (a : Int)) ||| (BitVec.ofInt 64 (b : Int)) : BitVec 64).toNat : Nat) : Int) = _
  rw [BitVec.ofInt_natCast, BitVec.ofInt_natCast, BitVec.toNat_or, BitVec.toNat_ofNat, BitVec.toNat_ofNat]
  rw [Nat.mod_eq_of_lt (by omega), Nat.mod_eq_of_lt (by omega), IntKind.wrap_u64]
  omega
theorem or7 (a y k : Nat) (ha : a < 128 ^ k) (h : a + y * 128 ^ k ≤ 18446744073709551615) : bits .or .u64 (a : Int) ((y * 128 ^ k : Nat) : Int) = ((a + y * 128 ^ k : Nat) : Int) := by
  rw [or64 _ _ (by omega) (by omega), Nat.or_comm, pow7, Nat.mul_comm, ← Nat.two_pow_add_eq_or_of_lt (by rw [← pow7]; exact ha), Nat.add_comm]
theorem Rdd.turned {w w' : World} {g n c p q p' q' : Nat} {A : Option Addr} {l : List UInt8} (h : Turned w w' (rdr g A n c l p q) (rdr g A n c l p' q')) {p2 q2 : Nat} (hp : p' = p2) (hq : q' = q2) : Turned w w' (rdr g A n c l p q) (rdr g A n c l p2 q2) := by
  subst hp
  subst hq
  exact h
theorem tk_le (l : List UInt8) (p k : Nat) : (tkL l p k).length ≤ k := by unfold tkL; split <;> simp <;> omega
theorem be_bound {t : List UInt8} {k j : Nat} (hk : k < t.length) (ht : t.length ≤ j + 1) : be (t.take k) < 256 ^ j := by
  have h1 := be_lt (t.take k)
  rw [List.length_take, Nat.min_eq_left (by omega)] at h1
  exact Nat.lt_of_lt_of_le h1 (Nat.pow_le_pow_right (by decide) (by omega))
theorem or256 (a : Nat) (x : UInt8) : a * 256 ||| x.toNat = a * 256 + x.toNat := by
  rw [Nat.mul_comm, show (256 : Nat) = 2 ^ 8 from rfl, Nat.two_pow_add_eq_or_of_lt x.toNat_lt]
theorem or32 (a b : Nat) (ha : a < 4294967296) (hb : b < 4294967296) : bits .or .u32 (a : Int) (b : Int) = ((a ||| b : Nat) : Int) := by
  have h : a ||| b < 2 ^ 32 := Nat.or_lt_two_pow ha hb
  show IntKind.u32.wrap ((((BitVec.ofInt 32 (a : Int)) ||| (BitVec.ofInt 32 (b : Int)) : BitVec 32).toNat : Nat) : Int) = _
  rw [BitVec.ofInt_natCast, BitVec.ofInt_natCast, BitVec.toNat_or, BitVec.toNat_ofNat, BitVec.toNat_ofNat]
  rw [Nat.mod_eq_of_lt (by omega), Nat.mod_eq_of_lt (by omega), IntKind.wrap_u32]
  omega
theorem shl8_32 (a : Nat) (h : a < 256 ^ 3) : IntKind.u32.wrap ((a : Int) * 2 ^ (min (8 : Int).toNat IntKind.u32.bits)) = ((a * 256 : Nat) : Int) := by
  rw [show (2 : Int) ^ (min (8 : Int).toNat IntKind.u32.bits) = 256 by decide, IntKind.wrap_u32]
  omega
theorem orbe32 (a : Nat) (x : UInt8) (h : a < 256 ^ 3) : bits .or .u32 ((a * 256 : Nat) : Int) (x.toNat : Int) = ((a * 256 + x.toNat : Nat) : Int) := by
  rw [or32 _ _ (by omega) (by have := x.toNat_lt; omega), or256]
theorem bL_getX {l : List UInt8} {k : Nat} {x : UInt8} (h : l[k]? = some x) : (bL l)[k]? = some (Value.int .u8 (x.toNat : Int)) := bL_get l k x h
theorem split1 {w0 w : World} {M : Nat → Prop} {r s : Res} (S : St w0 M [both r s] w) (hap : ∀ i, r.dom i → ¬ s.dom i) : St w0 M [r, s] w :=
  ⟨S.os, S.tape, S.output, S.size, S.old, fun q hq => by
    have h1 := S.res _ List.mem_cons_self
    rcases List.mem_cons.1 hq with rfl | hq
    · exact ⟨h1.1.1, fun i hi => h1.2 i (.inl hi)⟩
    · obtain rfl := List.mem_singleton.1 hq
      exact ⟨h1.1.2, fun i hi => h1.2 i (.inr hi)⟩, List.pairwise_cons.2 ⟨fun s' hs' => by obtain rfl := List.mem_singleton.1 hs'; exact hap, List.pairwise_singleton _ _⟩⟩
theorem Rdd.end2 {w0 w : World} {g n c p q p' q' : Nat} {A : Option Addr} {l : List UInt8} {X : Array Value} (S : St w0 (rdr g A n c l p q).dom [blk g 218 X, row 5 1 A n c (bL l)] w) (hX : X = #[.slice A n c, .int .i64 (p' : Int), .int .i64 (q' : Int)]) : Turned w0 w (rdr g A n c l p q) (rdr g A n c l p' q') :=
  Rdd.of (St.turned2 (r := blk g 218 #[.slice A n c, .int .i64 (p : Int), .int .i64 (q : Int)]) (s := row 5 1 A n c (bL l)) S 0 1 rfl rfl) hX
theorem rnumber (g : Nat) (A : Option Addr) (n c : Nat) (l : List UInt8) (p : Nat) (w0 : World) (hw : (rdr g A n c l p 0).holds w0) (hp : p ≤ l.length) (hn62 : n ≤ 4611686018427387904) :
    Calls Tryz.prog 168 #[.pointer (some ⟨g, 0, none⟩)] w0 fun e w' => ∃ u, e = .returned u ∧ u = .int .u64 ((numF (l.drop p) 0 0).1 : Int) ∧ Turned w0 w' (rdr g A n c l p 0) (rdr g A n c l (p + (numF (l.drop p) 0 0).2.1) (numF (l.drop p) 0 0).2.2) := by
 refine enter1 (env := [(0, .pointer (some ⟨g, 0, none⟩))]) [.pointer (some ⟨g, 0, none⟩)] Tryz.func168 rfl Tryz.ntmps168 rfl rfl ?_; have hnl := rdr_len hw; have hnc := ownsRow_cap hw.2; have S0 := St.borrow1 (rdr g A n c l p 0) hw (rdr_lt hw); refine T_seq fun K1 hK1 => T_region (L_y (y_assign rfl) rfl (L_nil (hK1 _ _ (T_seq fun K2 hK2 => T_region (L_y (y_assign rfl) rfl (L_nil (hK2 _ _ (T_seq fun K3 hK3 => T_region (L_y (y_assign rfl) rfl (L_nil ?_)))))))))); refine hK3 _ _ (T_block ?_); refine T_loop2 [(0, _)] (fun (k : Nat) (a : Nat) => [(3, .int .u64 (a : Int)), (4, .int .i64 (k : Int))]) (fun (k : Nat) (a : Nat) => 10 - k) (fun (k : Nat) (a : Nat) (w : World) => ((k ≤ 9 ∧ p + k ≤ l.length ∧ a < 128 ^ k) ∧ numF (l.drop (p + k)) k a = numF (l.drop p) 0 0) ∧ St w0 (rdr g A n c l p 0).dom [rdr g A n c l (p + k) 0] w) 0 0 (Sub.cons rfl (by first | rfl | exact congrArg (Value.int _) (by omega)) (Sub.cons rfl (by first | rfl | exact congrArg (Value.int _) (by omega)) (Sub.nil _))) (Sub.cons rfl rfl (Sub.nil _)) ?_ ?_
 ·
  exact ⟨⟨⟨by omega, by omega, by decide⟩, rfl⟩, S0⟩
 ·
  intro k a w1 hrel; obtain ⟨⟨⟨hk9, hpk, ha⟩, hN⟩, S1⟩ := hrel; refine T_seq fun K4 hK4 => T_block (T_seq fun K5 hK5 => T_region (L_y (y_move rfl) rfl (L_o (o_call Tryz.func139 rfl rfl (rtake g A n c l (p + k) _ 1 w1 (S1.get 0 rfl) (by omega) (by omega) hn62) rfl rfl ?_)))); rintro e2 w2 ⟨v2, rfl, B2, d2, rfl, R2, T2⟩; refine ⟨_, rfl, (have S2 := S1.turn 0 rfl T2; have RR := R2; L_y (y_assign rfl) rfl (L_nil (hK5 _ _ (T_seq fun K6 hK6 => T_seq fun K7 hK7 => T_region (L_y (y_move rfl) rfl (L_y (y_nilp rfl) rfl (L_y (y_fieldA 2 Tryz.underlying218 rfl sz24 rfl rfl rfl) rfl (L_y (y_ldc Tryz.underlying24 rfl rfl (((S2.get 0 rfl).1.cell _).trans (by rfl))) rfl ?_))))))))⟩; refine L_y (y_neq rfl rfl) rfl (L_nil (hK7 _ _ ?_)); refine T_cond rfl (fun h15 => ?_) (fun h15 => ?_)
  ·
   have hk1 := tkE_caseN h15; have hN2 : numF (l.drop p) 0 0 = (0, k, 10) := by rw [← hN, List.drop_eq_nil_of_le (by omega)]; rfl
   refine T_seq fun K8 hK8 => T_region (L_y (y_assign rfl) rfl (L_nil (hK8 _ _ (T_ret (ur (ret1 rfl rfl ?_)))))); first | exact ⟨_, rfl, by rw [hN2]; rfl, Rdd.turned (S2.turned1 0 rfl) (by rw [hN2, tkP, if_neg hk1]) (by rw [hN2, tkE_no hk1])⟩ | exact ⟨_, rfl, by rw [hN2], Rdd.turned (S2.turned1 0 rfl) (by rw [hN2]) (by rw [hN2])⟩ | exact ⟨_, rfl, by rw [hN2]; rfl, by rw [hN2]; exact Rdd.end2 S2 rfl⟩
  ·
   have hk1 := tkE_case h15; obtain ⟨x, hx, htk, hdr⟩ := tk_one hk1; rw [show bL (tkL l (p + k) 1) = bL [x] from congrArg bL htk] at RR; rw [show tkP l (p + k) 1 = p + (k + 1) by rw [tkP, if_pos hk1]; omega, tkE_ok hk1] at S2; have hxl := x.toNat_lt; refine T_skip (hK6 _ _ (T_seq fun K9 hK9 => T_region (L_y (y_move rfl) rfl (L_y (y_idx Tryz.underlying22 sz5 rfl rfl (RR) inferInstance (by rw [tkL_ok hk1]; decide)) rfl ?_)))); refine L_y (y_ldr Tryz.underlying5 rfl rfl RR (show ([bV x])[0]? = some (Value.int .u8 (x.toNat : Int)) from rfl)) rfl (L_y (y_assign rfl) rfl (L_nil (hK9 _ _ (T_seq fun K10 hK10 => T_seq fun K11 hK11 => T_region (L_y (y_move rfl) rfl (L_y (y_eql rfl rfl) rfl (L_y (y_move rfl) rfl ?_))))))); refine L_split 21 rfl (fun h21 => ?_) (fun h21 => ?_)
   ·
    refine L_gyes rfl rfl (L_y (y_move rfl) rfl (L_gyes rfl rfl (L_y (y_gtr rfl rfl) rfl (L_y (y_pk rfl rfl) rfl (L_y (y_move rfl) rfl ?_))))); refine L_split 25 rfl (fun h25 => ?_) (fun h25 => ?_)
    ·
     refine L_gno rfl rfl rfl (L_gno rfl rfl rfl (L_gno rfl rfl rfl (L_gnu rfl rfl rfl (L_gnu rfl rfl rfl (L_gno rfl rfl rfl (L_y (y_pk rfl rfl) rfl (L_nil (hK11 _ _ (T_true rfl (T_seq fun K12 hK12 => ?_)))))))))); have hF : ((k = 9 ∧ 1 < x.toNat) ∨ (0 < k ∧ x.toNat = 0)) := by omega
     have hN2 : numF (l.drop p) 0 0 = (0, k + 1, 12) := by rw [← hN, hdr, numF, if_pos hF]
     refine T_region (L_y (y_move rfl) rfl (L_y (y_nilp rfl) rfl (have S5 := split1 S2 (rdr_apart (S2.get 0 rfl)); L_y (y_fieldA 2 Tryz.underlying218 rfl sz24 rfl rfl rfl) rfl (L_o (o_st1 S5 0 rfl rfl rfl rfl sz24 (by simp; done) fun w6 S6 => ?_))))); refine L_nil (hK12 _ _ (T_seq fun K13 hK13 => T_region (L_y (y_assign rfl) rfl (L_nil (hK13 _ _ (T_ret (ur (ret1 rfl rfl ?_)))))))); first | exact ⟨_, rfl, by rw [hN2]; rfl, Rdd.turned (S6.turned1 0 rfl) (by rw [hN2, tkP, if_neg hk1]) (by rw [hN2, tkE_no hk1])⟩ | exact ⟨_, rfl, by rw [hN2], Rdd.turned (S6.turned1 0 rfl) (by rw [hN2]) (by rw [hN2])⟩ | exact ⟨_, rfl, by rw [hN2]; rfl, by rw [hN2]; exact Rdd.end2 S6 rfl⟩
    ·
     refine L_gyes rfl rfl (L_y (y_move rfl) rfl (L_gyes rfl rfl (L_y (y_gtr rfl rfl) rfl (L_gyes rfl rfl (L_y (y_move rfl) rfl ?_))))); refine L_split 28 rfl (fun h28 => ?_) (fun h28 => ?_)
     ·
      refine L_gyes rfl rfl (L_y (y_move rfl) rfl (L_gyes rfl rfl (L_y (y_eql rfl rfl) rfl (L_gyes rfl rfl (L_y (y_pk rfl rfl) rfl (L_y (y_pk rfl rfl) rfl (L_nil (hK11 _ _ ?_)))))))); refine T_cond rfl (fun h32 => ?_) (fun h32 => ?_)
      ·
       refine T_seq fun K14 hK14 => ?_; have hF : ((k = 9 ∧ 1 < x.toNat) ∨ (0 < k ∧ x.toNat = 0)) := by omega
       have hN2 : numF (l.drop p) 0 0 = (0, k + 1, 12) := by rw [← hN, hdr, numF, if_pos hF]
       refine T_region (L_y (y_move rfl) rfl (L_y (y_nilp rfl) rfl (have S8 := split1 S2 (rdr_apart (S2.get 0 rfl)); L_y (y_fieldA 2 Tryz.underlying218 rfl sz24 rfl rfl rfl) rfl (L_o (o_st1 S8 0 rfl rfl rfl rfl sz24 (by simp; done) fun w9 S9 => ?_))))); refine L_nil (hK14 _ _ (T_seq fun K15 hK15 => T_region (L_y (y_assign rfl) rfl (L_nil (hK15 _ _ (T_ret (ur (ret1 rfl rfl ?_)))))))); first | exact ⟨_, rfl, by rw [hN2]; rfl, Rdd.turned (S9.turned1 0 rfl) (by rw [hN2, tkP, if_neg hk1]) (by rw [hN2, tkE_no hk1])⟩ | exact ⟨_, rfl, by rw [hN2], Rdd.turned (S9.turned1 0 rfl) (by rw [hN2]) (by rw [hN2])⟩ | exact ⟨_, rfl, by rw [hN2]; rfl, by rw [hN2]; exact Rdd.end2 S9 rfl⟩
      ·
       refine T_skip (hK10 _ _ (T_seq fun K16 hK16 => ?_)); have hF : ¬ ((k = 9 ∧ 1 < x.toNat) ∨ (0 < k ∧ x.toNat = 0)) := by omega
       have hnm := num_lt hk9 ha (x := x.toNat) (by omega) (fun h => by omega); refine T_region (L_y (y_move rfl) rfl (L_y (y_move rfl) rfl (L_y (y_bits rfl rfl rfl (andX x)) rfl (L_y (y_conv is5 Tryz.underlying102 rfl (u64w (by omega))) rfl (L_y (y_move rfl) rfl (L_y (y_mul rfl rfl (i64w (by omega))) rfl (L_y (y_conv is3 Tryz.underlying68 rfl (u64w (by omega))) rfl (L_y (y_shl rfl rfl (by omega) (shl7 _ k hk9 hnm.1)) rfl (L_y (y_bits rfl rfl rfl (or7 a _ k ha hnm.2)) rfl (L_y (y_assign rfl) rfl (L_nil (hK16 _ _ (T_seq fun K17 hK17 => ?_))))))))))))); refine T_region (L_y (y_move rfl) rfl (L_y (y_lss rfl rfl) rfl (L_nil (hK17 _ _ ?_)))); refine T_cond rfl (fun h46 => ?_) (fun h46 => ?_)
       ·
        have hN2 : numF (l.drop p) 0 0 = (a + x.toNat % 128 * 128 ^ k, k + 1, 0) := by rw [← hN, hdr, numF, if_neg hF, if_pos (by omega)]
        refine T_seq fun K18 hK18 => T_region (L_y (y_move rfl) rfl (L_y (y_assign rfl) rfl (L_nil (hK18 _ _ (T_ret (ur (ret1 rfl rfl ?_))))))); first | exact ⟨_, rfl, by rw [hN2]; rfl, Rdd.turned (S2.turned1 0 rfl) (by rw [hN2, tkP, if_neg hk1]) (by rw [hN2, tkE_no hk1])⟩ | exact ⟨_, rfl, by rw [hN2], Rdd.turned (S2.turned1 0 rfl) (by rw [hN2]) (by rw [hN2])⟩ | exact ⟨_, rfl, by rw [hN2]; rfl, by rw [hN2]; exact Rdd.end2 S2 rfl⟩
       ·
        refine T_skip (hK4 _ _ (T_region (L_y (y_move rfl) rfl (L_y (y_add rfl rfl (i64w (by omega))) rfl (L_y (y_assign rfl) rfl (L_nil (⟨k + 1, a + x.toNat % 128 * 128 ^ k, by omega, ⟨⟨⟨by omega, by omega, num_next ha⟩, by rw [← hN, hdr, numF, if_neg hF, if_neg (by omega)]; rfl⟩, S2⟩, ?_⟩))))))); exact (Sub.cons rfl (by first | rfl | exact congrArg (Value.int _) (by omega)) (Sub.cons rfl (by first | rfl | exact congrArg (Value.int _) (by omega)) (Sub.cons rfl rfl (Sub.nil _))))
     ·
      refine L_gno rfl rfl rfl (L_gno rfl rfl rfl (L_gyes rfl rfl (L_y (y_pk rfl rfl) rfl (L_y (y_pk rfl rfl) rfl (L_nil (hK11 _ _ (T_false rfl (T_skip (hK10 _ _ (T_seq fun K19 hK19 => ?_)))))))))); have hF : ¬ ((k = 9 ∧ 1 < x.toNat) ∨ (0 < k ∧ x.toNat = 0)) := by omega
      have hnm := num_lt hk9 ha (x := x.toNat) (by omega) (fun h => by omega); refine T_region (L_y (y_move rfl) rfl (L_y (y_move rfl) rfl (L_y (y_bits rfl rfl rfl (andX x)) rfl (L_y (y_conv is5 Tryz.underlying102 rfl (u64w (by omega))) rfl (L_y (y_move rfl) rfl (L_y (y_mul rfl rfl (i64w (by omega))) rfl (L_y (y_conv is3 Tryz.underlying68 rfl (u64w (by omega))) rfl (L_y (y_shl rfl rfl (by omega) (shl7 _ k hk9 hnm.1)) rfl (L_y (y_bits rfl rfl rfl (or7 a _ k ha hnm.2)) rfl (L_y (y_assign rfl) rfl (L_nil (hK19 _ _ (T_seq fun K20 hK20 => ?_))))))))))))); refine T_region (L_y (y_move rfl) rfl (L_y (y_lss rfl rfl) rfl (L_nil (hK20 _ _ ?_)))); refine T_cond rfl (fun h46 => ?_) (fun h46 => ?_)
      ·
       have hN2 : numF (l.drop p) 0 0 = (a + x.toNat % 128 * 128 ^ k, k + 1, 0) := by rw [← hN, hdr, numF, if_neg hF, if_pos (by omega)]
       refine T_seq fun K21 hK21 => T_region (L_y (y_move rfl) rfl (L_y (y_assign rfl) rfl (L_nil (hK21 _ _ (T_ret (ur (ret1 rfl rfl ?_))))))); first | exact ⟨_, rfl, by rw [hN2]; rfl, Rdd.turned (S2.turned1 0 rfl) (by rw [hN2, tkP, if_neg hk1]) (by rw [hN2, tkE_no hk1])⟩ | exact ⟨_, rfl, by rw [hN2], Rdd.turned (S2.turned1 0 rfl) (by rw [hN2]) (by rw [hN2])⟩ | exact ⟨_, rfl, by rw [hN2]; rfl, by rw [hN2]; exact Rdd.end2 S2 rfl⟩
      ·
       refine T_skip (hK4 _ _ (T_region (L_y (y_move rfl) rfl (L_y (y_add rfl rfl (i64w (by omega))) rfl (L_y (y_assign rfl) rfl (L_nil (⟨k + 1, a + x.toNat % 128 * 128 ^ k, by omega, ⟨⟨⟨by omega, by omega, num_next ha⟩, by rw [← hN, hdr, numF, if_neg hF, if_neg (by omega)]; rfl⟩, S2⟩, ?_⟩))))))); exact (Sub.cons rfl (by first | rfl | exact congrArg (Value.int _) (by omega)) (Sub.cons rfl (by first | rfl | exact congrArg (Value.int _) (by omega)) (Sub.cons rfl rfl (Sub.nil _))))
   ·
    refine L_gno rfl rfl rfl (L_gno rfl rfl rfl (L_y (y_pk rfl rfl) rfl (L_y (y_move rfl) rfl (L_gyes rfl rfl (L_y (y_move rfl) rfl (L_gyes rfl rfl (L_y (y_gtr rfl rfl) rfl (L_gyes rfl rfl (L_y (y_move rfl) rfl ?_))))))))); refine L_split 28 rfl (fun h28 => ?_) (fun h28 => ?_)
    ·
     refine L_gyes rfl rfl (L_y (y_move rfl) rfl (L_gyes rfl rfl (L_y (y_eql rfl rfl) rfl (L_gyes rfl rfl (L_y (y_pk rfl rfl) rfl (L_y (y_pk rfl rfl) rfl (L_nil (hK11 _ _ ?_)))))))); refine T_cond rfl (fun h32 => ?_) (fun h32 => ?_)
     ·
      refine T_seq fun K22 hK22 => ?_; have hF : ((k = 9 ∧ 1 < x.toNat) ∨ (0 < k ∧ x.toNat = 0)) := by omega
      have hN2 : numF (l.drop p) 0 0 = (0, k + 1, 12) := by rw [← hN, hdr, numF, if_pos hF]
      refine T_region (L_y (y_move rfl) rfl (L_y (y_nilp rfl) rfl (have S11 := split1 S2 (rdr_apart (S2.get 0 rfl)); L_y (y_fieldA 2 Tryz.underlying218 rfl sz24 rfl rfl rfl) rfl (L_o (o_st1 S11 0 rfl rfl rfl rfl sz24 (by simp; done) fun w12 S12 => ?_))))); refine L_nil (hK22 _ _ (T_seq fun K23 hK23 => T_region (L_y (y_assign rfl) rfl (L_nil (hK23 _ _ (T_ret (ur (ret1 rfl rfl ?_)))))))); first | exact ⟨_, rfl, by rw [hN2]; rfl, Rdd.turned (S12.turned1 0 rfl) (by rw [hN2, tkP, if_neg hk1]) (by rw [hN2, tkE_no hk1])⟩ | exact ⟨_, rfl, by rw [hN2], Rdd.turned (S12.turned1 0 rfl) (by rw [hN2]) (by rw [hN2])⟩ | exact ⟨_, rfl, by rw [hN2]; rfl, by rw [hN2]; exact Rdd.end2 S12 rfl⟩
     ·
      refine T_skip (hK10 _ _ (T_seq fun K24 hK24 => ?_)); have hF : ¬ ((k = 9 ∧ 1 < x.toNat) ∨ (0 < k ∧ x.toNat = 0)) := by omega
      have hnm := num_lt hk9 ha (x := x.toNat) (by omega) (fun h => by omega); refine T_region (L_y (y_move rfl) rfl (L_y (y_move rfl) rfl (L_y (y_bits rfl rfl rfl (andX x)) rfl (L_y (y_conv is5 Tryz.underlying102 rfl (u64w (by omega))) rfl (L_y (y_move rfl) rfl (L_y (y_mul rfl rfl (i64w (by omega))) rfl (L_y (y_conv is3 Tryz.underlying68 rfl (u64w (by omega))) rfl (L_y (y_shl rfl rfl (by omega) (shl7 _ k hk9 hnm.1)) rfl (L_y (y_bits rfl rfl rfl (or7 a _ k ha hnm.2)) rfl (L_y (y_assign rfl) rfl (L_nil (hK24 _ _ (T_seq fun K25 hK25 => ?_))))))))))))); refine T_region (L_y (y_move rfl) rfl (L_y (y_lss rfl rfl) rfl (L_nil (hK25 _ _ ?_)))); refine T_cond rfl (fun h46 => ?_) (fun h46 => ?_)
      ·
       have hN2 : numF (l.drop p) 0 0 = (a + x.toNat % 128 * 128 ^ k, k + 1, 0) := by rw [← hN, hdr, numF, if_neg hF, if_pos (by omega)]
       refine T_seq fun K26 hK26 => T_region (L_y (y_move rfl) rfl (L_y (y_assign rfl) rfl (L_nil (hK26 _ _ (T_ret (ur (ret1 rfl rfl ?_))))))); first | exact ⟨_, rfl, by rw [hN2]; rfl, Rdd.turned (S2.turned1 0 rfl) (by rw [hN2, tkP, if_neg hk1]) (by rw [hN2, tkE_no hk1])⟩ | exact ⟨_, rfl, by rw [hN2], Rdd.turned (S2.turned1 0 rfl) (by rw [hN2]) (by rw [hN2])⟩ | exact ⟨_, rfl, by rw [hN2]; rfl, by rw [hN2]; exact Rdd.end2 S2 rfl⟩
      ·
       refine T_skip (hK4 _ _ (T_region (L_y (y_move rfl) rfl (L_y (y_add rfl rfl (i64w (by omega))) rfl (L_y (y_assign rfl) rfl (L_nil (⟨k + 1, a + x.toNat % 128 * 128 ^ k, by omega, ⟨⟨⟨by omega, by omega, num_next ha⟩, by rw [← hN, hdr, numF, if_neg hF, if_neg (by omega)]; rfl⟩, S2⟩, ?_⟩))))))); exact (Sub.cons rfl (by first | rfl | exact congrArg (Value.int _) (by omega)) (Sub.cons rfl (by first | rfl | exact congrArg (Value.int _) (by omega)) (Sub.cons rfl rfl (Sub.nil _))))
    ·
     refine L_gno rfl rfl rfl (L_gno rfl rfl rfl (L_gyes rfl rfl (L_y (y_pk rfl rfl) rfl (L_y (y_pk rfl rfl) rfl (L_nil (hK11 _ _ (T_false rfl (T_skip (hK10 _ _ (T_seq fun K27 hK27 => ?_)))))))))); have hF : ¬ ((k = 9 ∧ 1 < x.toNat) ∨ (0 < k ∧ x.toNat = 0)) := by omega
     have hnm := num_lt hk9 ha (x := x.toNat) (by omega) (fun h => by omega); refine T_region (L_y (y_move rfl) rfl (L_y (y_move rfl) rfl (L_y (y_bits rfl rfl rfl (andX x)) rfl (L_y (y_conv is5 Tryz.underlying102 rfl (u64w (by omega))) rfl (L_y (y_move rfl) rfl (L_y (y_mul rfl rfl (i64w (by omega))) rfl (L_y (y_conv is3 Tryz.underlying68 rfl (u64w (by omega))) rfl (L_y (y_shl rfl rfl (by omega) (shl7 _ k hk9 hnm.1)) rfl (L_y (y_bits rfl rfl rfl (or7 a _ k ha hnm.2)) rfl (L_y (y_assign rfl) rfl (L_nil (hK27 _ _ (T_seq fun K28 hK28 => ?_))))))))))))); refine T_region (L_y (y_move rfl) rfl (L_y (y_lss rfl rfl) rfl (L_nil (hK28 _ _ ?_)))); refine T_cond rfl (fun h46 => ?_) (fun h46 => ?_)
     ·
      have hN2 : numF (l.drop p) 0 0 = (a + x.toNat % 128 * 128 ^ k, k + 1, 0) := by rw [← hN, hdr, numF, if_neg hF, if_pos (by omega)]
      refine T_seq fun K29 hK29 => T_region (L_y (y_move rfl) rfl (L_y (y_assign rfl) rfl (L_nil (hK29 _ _ (T_ret (ur (ret1 rfl rfl ?_))))))); first | exact ⟨_, rfl, by rw [hN2]; rfl, Rdd.turned (S2.turned1 0 rfl) (by rw [hN2, tkP, if_neg hk1]) (by rw [hN2, tkE_no hk1])⟩ | exact ⟨_, rfl, by rw [hN2], Rdd.turned (S2.turned1 0 rfl) (by rw [hN2]) (by rw [hN2])⟩ | exact ⟨_, rfl, by rw [hN2]; rfl, by rw [hN2]; exact Rdd.end2 S2 rfl⟩
     ·
      refine T_skip (hK4 _ _ (T_region (L_y (y_move rfl) rfl (L_y (y_add rfl rfl (i64w (by omega))) rfl (L_y (y_assign rfl) rfl (L_nil (⟨k + 1, a + x.toNat % 128 * 128 ^ k, by omega, ⟨⟨⟨by omega, by omega, num_next ha⟩, by rw [← hN, hdr, numF, if_neg hF, if_neg (by omega)]; rfl⟩, S2⟩, ?_⟩))))))); exact (Sub.cons rfl (by first | rfl | exact congrArg (Value.int _) (by omega)) (Sub.cons rfl (by first | rfl | exact congrArg (Value.int _) (by omega)) (Sub.cons rfl rfl (Sub.nil _))))
theorem Rdd.join {w0 w : World} {M : Nat → Prop} {g n c p' q' : Nat} {A : Option Addr} {l : List UInt8} {X : Array Value} (S : St w0 M [blk g 218 X, row 5 1 A n c (bL l)] w) (hX : X = #[.slice A n c, .int .i64 (p' : Int), .int .i64 (q' : Int)]) : St w0 M [rdr g A n c l p' q'] w := by
  subst hX
  exact S.join
def vaN (l : List UInt8) (p q m : Nat) : Nat × Nat × Nat :=
  if q ≠ 0 then (0, p, q) else if (numF (l.drop p) 0 0).2.2 ≠ 0 then (0, p, (numF (l.drop p) 0 0).2.2) else if m < (numF (l.drop p) 0 0).1 then (0, p, 3) else ((numF (l.drop p) 0 0).1, p + (numF (l.drop p) 0 0).2.1, 0)
theorem rvar (g : Nat) (A : Option Addr) (n c : Nat) (l : List UInt8) (p q : Nat) (m : Nat) (w0 : World) (hw : (rdr g A n c l p q).holds w0) (hp : p ≤ l.length) (hn62 : n ≤ 4611686018427387904) :
    Calls Tryz.prog 129 #[.pointer (some ⟨g, 0, none⟩), .int .u64 (m : Int)] w0 fun e w' => ∃ u, e = .returned u ∧ u = .int .u64 ((vaN l p q m).1 : Int) ∧ Turned w0 w' (rdr g A n c l p q) (rdr g A n c l (vaN l p q m).2.1 (vaN l p q m).2.2) := by
 refine enterD1 (env := [(0, .pointer (some ⟨g, 0, none⟩)), (1, .int .u64 (m : Int))]) [.pointer (some ⟨g, 0, none⟩), .int .u64 (m : Int)] Tryz.func129 rfl Tryz.ntmps129 rfl rfl ?_; have hnl := rdr_len hw; have hnc := ownsRow_cap hw.2; have S0 := St.borrow1 (rdr g A n c l p q) hw (rdr_lt hw); refine T_seq fun K1 hK1 => T_region (L_y (y_assign rfl) rfl (L_nil (hK1 _ _ (T_seq fun K2 hK2 => T_seq fun K3 hK3 => T_region (L_y (y_move rfl) rfl (L_o (o_call Tryz.func137 rfl rfl (rdead g A n c l p _ w0 (S0.get 0 rfl) hp) rfl rfl ?_))))))); rintro e1 w1 ⟨v1, rfl, l1, rfl⟩; refine ⟨_, rfl, (have S1 := S0.like l1; L_nil (hK3 _ _ ?_))⟩; refine T_cond rfl (fun h7 => ?_) (fun h7 => ?_)
 ·
  refine T_seq fun K4 hK4 => T_region (L_y (y_assign rfl) rfl (L_nil (hK4 _ _ (T_ret (ur (retd1 rfl rfl ?_)))))); have hV : vaN l p q m = (0, p, q) := by rw [vaN, if_pos (by omega)]
  exact ⟨_, rfl, by rw [hV]; rfl, by rw [hV]; exact Rdd.turned (S1.turned1 0 rfl) rfl rfl⟩
 ·
  have hq : q = 0 := by omega
  subst hq; refine T_skip (hK2 _ _ (T_seq fun K5 hK5 => T_region (L_y (y_move rfl) rfl (L_y (y_move rfl) rfl (L_y (y_nilp rfl) rfl (L_y (y_fieldA 1 Tryz.underlying218 rfl sz3 rfl rfl rfl) rfl (L_y (y_ldc Tryz.underlying3 rfl rfl (((S1.get 0 rfl).1.cell _).trans (by rfl))) rfl ?_))))))); refine L_defer rfl (L_nil (hK5 _ _ (T_seq fun K6 hK6 => T_region (L_y (y_move rfl) rfl (L_o (o_call Tryz.func168 rfl rfl (rnumber g A n c l p w1 (S1.get 0 rfl) hp hn62) rfl rfl ?_)))))); rintro e2 w2 ⟨v2, rfl, rfl, T2⟩; refine ⟨_, rfl, (have S2 := S1.turn 0 rfl T2; L_y (y_assign rfl) rfl (L_nil (hK6 _ _ (T_seq fun K7 hK7 => T_seq fun K8 hK8 => T_region (L_y (y_move rfl) rfl (L_y (y_nilp rfl) rfl (L_y (y_fieldA 2 Tryz.underlying218 rfl sz24 rfl rfl rfl) rfl (L_y (y_ldc Tryz.underlying24 rfl rfl (((S2.get 0 rfl).1.cell _).trans (by rfl))) rfl ?_))))))))⟩; refine L_y (y_eql rfl rfl) rfl (L_y (y_move rfl) rfl ?_); refine L_split 20 rfl (fun h20 => ?_) (fun h20 => ?_)
  ·
   refine L_gyes rfl rfl (L_y (y_move rfl) rfl (L_gyes rfl rfl (L_y (y_move rfl) rfl (L_gyes rfl rfl (L_y (y_gtr rfl rfl) rfl (L_y (y_pk rfl rfl) rfl (L_nil (hK8 _ _ ?_)))))))); refine T_cond rfl (fun h24 => ?_) (fun h24 => ?_)
   ·
    refine T_region (L_y (y_move rfl) rfl (L_y (y_nilp rfl) rfl (have S4 := split1 S2 (rdr_apart (S2.get 0 rfl)); L_y (y_fieldA 2 Tryz.underlying218 rfl sz24 rfl rfl rfl) rfl (L_o (o_st1 S4 0 rfl rfl rfl rfl sz24 (by simp; done) fun w5 S5 => ?_))))); have S6 := Rdd.join S5 (q' := 3) rfl; refine L_nil (hK7 _ _ (T_seq fun K9 hK9 => T_seq fun K10 hK10 => T_region (L_y (y_move rfl) rfl (L_y (y_nilp rfl) rfl (L_y (y_fieldA 2 Tryz.underlying218 rfl sz24 rfl rfl rfl) rfl (L_y (y_ldc Tryz.underlying24 rfl rfl (((S6.get 0 rfl).1.cell _).trans (by rfl))) rfl ?_)))))); refine L_y (y_neq rfl rfl) rfl (L_nil (hK10 _ _ ?_)); refine T_cond rfl (fun h32 => ?_) (fun h32 => ?_)
    ·
     refine T_seq fun K11 hK11 => T_region (L_y (y_assign rfl) rfl (L_nil (hK11 _ _ (T_ret (ur (retD1 (f := 167) rfl rfl rfl Tryz.func167 rfl rfl (rback g A n c l _ _ p w5 (S6.get 0 rfl)) ?_)))))); rintro e7 w7 ⟨v7, rfl, T7⟩; refine ⟨_, rfl, ?_⟩; have S7 := S6.turn 0 rfl T7; have hV : vaN l p 0 m = (0, p, 3) := by rw [vaN, if_neg (by omega), if_neg (by omega), if_pos (by omega)]
     exact ⟨_, rfl, by rw [hV]; rfl, by rw [hV]; exact Rdd.turned (S7.turned1 0 rfl) (if_pos (by decide)) rfl⟩
    ·
     refine T_skip (hK9 _ _ (T_seq fun K12 hK12 => T_region (L_y (y_move rfl) rfl (L_y (y_assign rfl) rfl (L_nil (hK12 _ _ (T_ret (ur (retD1 (f := 167) rfl rfl rfl Tryz.func167 rfl rfl (rback g A n c l _ _ p w5 (S6.get 0 rfl)) ?_))))))))); rintro e8 w8 ⟨v8, rfl, T8⟩; refine ⟨_, rfl, ?_⟩; have S8 := S6.turn 0 rfl T8; exfalso
     omega
   ·
    refine T_skip (hK7 _ _ (T_seq fun K13 hK13 => T_seq fun K14 hK14 => T_region (L_y (y_move rfl) rfl (L_y (y_nilp rfl) rfl (L_y (y_fieldA 2 Tryz.underlying218 rfl sz24 rfl rfl rfl) rfl (L_y (y_ldc Tryz.underlying24 rfl rfl (((S2.get 0 rfl).1.cell _).trans (by rfl))) rfl ?_)))))); refine L_y (y_neq rfl rfl) rfl (L_nil (hK14 _ _ ?_)); refine T_cond rfl (fun h32 => ?_) (fun h32 => ?_)
    ·
     refine T_seq fun K15 hK15 => T_region (L_y (y_assign rfl) rfl (L_nil (hK15 _ _ (T_ret (ur (retD1 (f := 167) rfl rfl rfl Tryz.func167 rfl rfl (rback g A n c l _ _ p w2 (S2.get 0 rfl)) ?_)))))); rintro e9 w9 ⟨v9, rfl, T9⟩; refine ⟨_, rfl, ?_⟩; have S9 := S2.turn 0 rfl T9; exfalso
     omega
    ·
     refine T_skip (hK13 _ _ (T_seq fun K16 hK16 => T_region (L_y (y_move rfl) rfl (L_y (y_assign rfl) rfl (L_nil (hK16 _ _ (T_ret (ur (retD1 (f := 167) rfl rfl rfl Tryz.func167 rfl rfl (rback g A n c l _ _ p w2 (S2.get 0 rfl)) ?_))))))))); rintro e10 w10 ⟨v10, rfl, T10⟩; refine ⟨_, rfl, ?_⟩; have S10 := S2.turn 0 rfl T10; have hV : vaN l p 0 m = ((numF (l.drop p) 0 0).1, p + (numF (l.drop p) 0 0).2.1, 0) := by rw [vaN, if_neg (by omega), if_neg (by omega), if_neg (by omega)]
     exact ⟨_, rfl, by rw [hV], by rw [hV]; exact Rdd.turned (S10.turned1 0 rfl) (if_neg (by omega)) (show (numF (l.drop p) 0 0).2.2 = 0 by omega)⟩
  ·
   refine L_gno rfl rfl rfl (L_gno rfl rfl rfl (L_gno rfl rfl rfl (L_y (y_pk rfl rfl) rfl (L_nil (hK8 _ _ (T_false rfl (T_skip (hK7 _ _ (T_seq fun K17 hK17 => T_seq fun K18 hK18 => T_region (L_y (y_move rfl) rfl (L_y (y_nilp rfl) rfl ?_))))))))))); refine L_y (y_fieldA 2 Tryz.underlying218 rfl sz24 rfl rfl rfl) rfl (L_y (y_ldc Tryz.underlying24 rfl rfl (((S2.get 0 rfl).1.cell _).trans (by rfl))) rfl ?_); refine L_y (y_neq rfl rfl) rfl (L_nil (hK18 _ _ ?_)); refine T_cond rfl (fun h32 => ?_) (fun h32 => ?_)
   ·
    refine T_seq fun K19 hK19 => T_region (L_y (y_assign rfl) rfl (L_nil (hK19 _ _ (T_ret (ur (retD1 (f := 167) rfl rfl rfl Tryz.func167 rfl rfl (rback g A n c l _ _ p w2 (S2.get 0 rfl)) ?_)))))); rintro e11 w11 ⟨v11, rfl, T11⟩; refine ⟨_, rfl, ?_⟩; have S11 := S2.turn 0 rfl T11; have hV : vaN l p 0 m = (0, p, (numF (l.drop p) 0 0).2.2) := by rw [vaN, if_neg (by omega), if_pos (by omega)]
    exact ⟨_, rfl, by rw [hV]; rfl, by rw [hV]; exact Rdd.turned (S11.turned1 0 rfl) (if_pos (by omega)) rfl⟩
   ·
    refine T_skip (hK17 _ _ (T_seq fun K20 hK20 => T_region (L_y (y_move rfl) rfl (L_y (y_assign rfl) rfl (L_nil (hK20 _ _ (T_ret (ur (retD1 (f := 167) rfl rfl rfl Tryz.func167 rfl rfl (rback g A n c l _ _ p w2 (S2.get 0 rfl)) ?_))))))))); rintro e12 w12 ⟨v12, rfl, T12⟩; refine ⟨_, rfl, ?_⟩; have S12 := S2.turn 0 rfl T12; exfalso
    omega
theorem numF_le : ∀ (r : List UInt8) (k a : Nat), (numF r k a).2.1 ≤ k + r.length
  | [], k, a => by simp [numF]
  | c :: r, k, a => by
    have h := numF_le r (k + 1) (a + c.toNat % 128 * 128 ^ k)
    unfold numF
    split
    · simp
    · split
      · simp
      · simp only [List.length_cons]
        omega
theorem numF_at (l : List UInt8) (p : Nat) (h : p ≤ l.length) : p + (numF (l.drop p) 0 0).2.1 ≤ l.length := by
  have := numF_le (l.drop p) 0 0
  rw [List.length_drop] at this
  omega
def rnL (l : List UInt8) (p q : Nat) (m : Int) : List UInt8 := if m < 0 then [] else rwL l p q m.toNat
def rnP (l : List UInt8) (p q : Nat) (m : Int) : Nat := if m < 0 then p else rwP l p q m.toNat
def rnE (l : List UInt8) (p q : Nat) (m : Int) : Nat := if m < 0 then (if q ≠ 0 then q else 3) else rwE l p q m.toNat
theorem rdr_same {g n c p q p' q' : Nat} {A : Option Addr} {l : List UInt8} {i : Nat} (h : (rdr g A n c l p q).dom i) : (rdr g A n c l p' q').dom i := h
theorem rraw (g : Nat) (A : Option Addr) (n c : Nat) (l : List UInt8) (p q : Nat) (m : Int) (w0 : World) (hw : (rdr g A n c l p q).holds w0) (hp : p ≤ l.length) (hn62 : n ≤ 70368744177664) (hm : m ≤ 9223372036854775807) :
    Calls Tryz.prog 104 #[.pointer (some ⟨g, 0, none⟩), .int .i64 m] w0 fun e w' => ∃ u, e = .returned u ∧ Turned w0 w' (rdr g A n c l p q) (rdr g A n c l (rnP l p q m) (rnE l p q m)) ∧ ∃ B c2, u = .slice B (rnL l p q m).length c2 ∧ (row 5 1 B (rnL l p q m).length c2 (bL (rnL l p q m))).holds w' ∧ ∀ i, (row 5 1 B (rnL l p q m).length c2 (bL (rnL l p q m))).dom i → w0.heap.size ≤ i := by
 refine enter1 (env := [(0, .pointer (some ⟨g, 0, none⟩)), (1, .int .i64 m)]) [.pointer (some ⟨g, 0, none⟩), .int .i64 m] Tryz.func104 rfl Tryz.ntmps104 rfl rfl ?_; have hnl := rdr_len hw; have hnc := ownsRow_cap hw.2; have S0 := St.borrow1 (rdr g A n c l p q) hw (rdr_lt hw); refine T_seq fun K1 hK1 => T_region (L_y (y_assign rfl) rfl (L_nil (hK1 _ _ (T_seq fun K2 hK2 => T_seq fun K3 hK3 => T_region (L_y (y_move rfl) rfl (L_o (o_call Tryz.func137 rfl rfl (rdead g A n c l p _ w0 (S0.get 0 rfl) hp) rfl rfl ?_))))))); rintro e1 w1 ⟨v1, rfl, l1, rfl⟩; refine ⟨_, rfl, (have S1 := S0.like l1; L_nil (hK3 _ _ ?_))⟩; refine T_cond rfl (fun h6 => ?_) (fun h6 => ?_)
 ·
  refine T_seq fun K4 hK4 => T_region (L_y (y_assign rfl) rfl (L_nil (hK4 _ _ (T_ret (ur (ret1 rfl rfl ?_)))))); have e1 : rnL l p q m = [] := by unfold rnL rwL; split; rfl; rw [if_neg (by omega)]
  have e2 : rnP l p q m = p := by unfold rnP rwP; split; rfl; rw [if_neg (by omega)]
  have e3 : rnE l p q m = q := by unfold rnE rwE; split; rw [if_pos (by omega)]; rw [if_neg (by omega)]
  exact ⟨_, rfl, by rw [e2, e3]; exact S1.turned1 0 rfl, none, 0, by rw [e1]; rfl, by rw [e1]; exact ⟨by simp [bL], .inl ⟨rfl, rfl⟩⟩, fun i hi => by rw [e1] at hi; simp [row, Value.ownBlock] at hi⟩
 ·
  have hq : q = 0 := by omega
  subst hq; refine T_skip (hK2 _ _ (T_seq fun K5 hK5 => T_seq fun K6 hK6 => T_region (L_y (y_move rfl) rfl (L_y (y_lss rfl rfl) rfl (L_nil (hK6 _ _ ?_)))))); refine T_cond rfl (fun h8 => ?_) (fun h8 => ?_)
  ·
   refine T_seq fun K7 hK7 => T_region (L_y (y_move rfl) rfl (L_y (y_move rfl) rfl (L_y (y_nilp rfl) rfl (L_y (y_fieldA 1 Tryz.underlying218 rfl sz3 rfl rfl rfl) rfl (L_y (y_ldc Tryz.underlying3 rfl rfl (((S1.get 0 rfl).1.cell _).trans (by rfl))) rfl ?_))))); refine L_o (o_call Tryz.func138 rfl rfl (rfail g A n c l _ _ p 3 w1 (S1.get 0 rfl) hp) rfl rfl ?_); rintro e2 w2 ⟨v2, rfl, T2⟩; refine ⟨_, rfl, (have S2 := S1.turn 0 rfl T2; L_nil (hK7 _ _ (T_seq fun K8 hK8 => T_region (L_y (y_assign rfl) rfl (L_nil (hK8 _ _ (T_ret (ur (ret1 rfl rfl ?_)))))))))⟩; have e1 : rnL l p 0 m = [] := by rw [rnL, if_pos (by omega)]
   have e2 : rnP l p 0 m = p := by rw [rnP, if_pos (by omega)]
   have e3 : rnE l p 0 m = 3 := by rw [rnE, if_pos (by omega)]; rfl
   exact ⟨_, rfl, by rw [e2, e3]; exact S2.turned1 0 rfl, none, 0, by rw [e1]; rfl, by rw [e1]; exact ⟨by simp [bL], .inl ⟨rfl, rfl⟩⟩, fun i hi => by rw [e1] at hi; simp [row, Value.ownBlock] at hi⟩
  ·
   obtain ⟨k, rfl⟩ : ∃ k : Nat, m = (k : Int) := ⟨m.toNat, by omega⟩; refine T_skip (hK5 _ _ (T_seq fun K9 hK9 => T_region (L_y (y_move rfl) rfl (L_y (y_move rfl) rfl (L_o (o_call Tryz.func139 rfl rfl (rtake g A n c l p _ k w1 (S1.get 0 rfl) hp (by omega) (by omega)) rfl rfl ?_)))))); rintro e3 w3 ⟨v3, rfl, B3, d3, rfl, RR, T3⟩; refine ⟨_, rfl, ?_⟩; have S3 := S1.turn 0 rfl T3; have htl := tk_le l p k; have htn : (tkL l p k).length ≤ l.length := by unfold tkL; split; simp; omega; simp
   refine L_o (o_app0 te22 S3 rfl rfl (RR) (bL_one _) rfl (by omega) (by omega) fun A4 c4 w4 S4 => L_y (y_assign rfl) rfl (L_nil (hK9 _ _ (T_ret (ur (ret1 rfl rfl ?_)))))); have e1 : rnL l p 0 (k : Int) = tkL l p k := by rw [rnL, if_neg (by omega), rwL, if_pos rfl, Int.toNat_natCast]
   have e2 : rnP l p 0 (k : Int) = tkP l p k := by rw [rnP, if_neg (by omega), rwP, if_pos rfl, Int.toNat_natCast]
   have e3 : rnE l p 0 (k : Int) = tkE l p k 0 := by rw [rnE, if_neg (by omega), rwE, if_pos rfl, Int.toNat_natCast]
   exact ⟨_, rfl, by rw [e2, e3]; exact S4.turned1 0 rfl, _, _, by rw [e1], by rw [e1]; exact S4.get 1 rfl, fun i hi => by rw [e1] at hi; have h9 := (S4.res _ (List.mem_of_getElem? (show _ = some _ from (rfl : [rdr g A n c l (tkP l p k) (tkE l p k 0), _][1]? = some _)))).2 i hi; rcases h9.2 with h9 | h9; exact h9; exact absurd hi (St.apart_ S4 0 1 rfl rfl rfl i (rdr_same h9))⟩
theorem ru32 (g : Nat) (A : Option Addr) (n c : Nat) (l : List UInt8) (p q : Nat) (w0 : World) (hw : (rdr g A n c l p q).holds w0) (hp : p ≤ l.length) (hn62 : n ≤ 4611686018427387904) :
    Calls Tryz.prog 105 #[.pointer (some ⟨g, 0, none⟩)] w0 fun e w' => ∃ u, e = .returned u ∧ u = .int .u32 (be (rwL l p q 4) : Int) ∧ Turned w0 w' (rdr g A n c l p q) (rdr g A n c l (rwP l p q 4) (rwE l p q 4)) := by
 refine enter1 (env := [(0, .pointer (some ⟨g, 0, none⟩))]) [.pointer (some ⟨g, 0, none⟩)] Tryz.func105 rfl Tryz.ntmps105 rfl rfl ?_; have hnl := rdr_len hw; have hnc := ownsRow_cap hw.2; have S0 := St.borrow1 (rdr g A n c l p q) hw (rdr_lt hw); refine T_seq fun K1 hK1 => T_region (L_y (y_assign rfl) rfl (L_nil (hK1 _ _ (T_seq fun K2 hK2 => T_seq fun K3 hK3 => T_region (L_y (y_move rfl) rfl (L_o (o_call Tryz.func137 rfl rfl (rdead g A n c l p _ w0 (S0.get 0 rfl) hp) rfl rfl ?_))))))); rintro e1 w1 ⟨v1, rfl, l1, rfl⟩; refine ⟨_, rfl, (have S1 := S0.like l1; L_nil (hK3 _ _ ?_))⟩; refine T_cond rfl (fun h7 => ?_) (fun h7 => ?_)
 ·
  refine T_seq fun K4 hK4 => T_region (L_y (y_assign rfl) rfl (L_nil (hK4 _ _ (T_ret (ur (ret1 rfl rfl ?_)))))); first | exact ⟨_, rfl, by rw [rwL, if_neg (by omega)]; rfl, Rdd.turned (S1.turned1 0 rfl) (by rw [rwP, if_neg (by omega)]) (by rw [rwE, if_neg (by omega)])⟩ | exact ⟨_, rfl, by rw [rwL, if_pos rfl, List.take_length], Rdd.turned (S1.turned1 0 rfl) rfl rfl⟩
 ·
  have hq : q = 0 := by omega
  subst hq; refine T_skip (hK2 _ _ (T_seq fun K5 hK5 => T_region (L_y (y_assign rfl) rfl (L_nil (hK5 _ _ (T_seq fun K6 hK6 => T_seq fun K7 hK7 => T_region (L_y (y_move rfl) rfl (L_o (o_call Tryz.func139 rfl rfl (rtake g A n c l p _ 4 w1 (S1.get 0 rfl) hp (by omega) hn62) rfl rfl ?_))))))))); rintro e2 w2 ⟨v2, rfl, B2, d2, rfl, R2, T2⟩; refine ⟨_, rfl, (have S2 := S1.turn 0 rfl T2; have RR := R2; L_y (y_len Tryz.underlying22 rfl) rfl (L_y (y_move rfl) rfl (L_nil (hK7 _ _ (T_block ?_)))))⟩; refine T_loop1 [(9, _), (10, _)] (fun (k : Nat) => [(3, .int .u32 (be ((tkL l p 4).take k) : Int)), (11, .int .i64 (k : Int))]) (fun (k : Nat) => (tkL l p 4).length - k) (fun (k : Nat) (w : World) => (k ≤ (tkL l p 4).length ∧ Rs w 1 B2 (tkL l p 4).length d2 (bL (tkL l p 4))) ∧ St w0 (rdr g A n c l p 0).dom [rdr g A n c l (tkP l p 4) (tkE l p 4 0)] w) 0 (Sub.cons rfl (by first | rfl | exact congrArg (Value.int _) (by omega)) (Sub.cons rfl (by first | rfl | exact congrArg (Value.int _) (by omega)) (Sub.nil _))) (Sub.cons rfl rfl (Sub.cons rfl rfl (Sub.nil _))) ?_ ?_
  ·
   exact ⟨⟨Nat.zero_le _, RR⟩, S2⟩
  ·
   intro k w3 hrel; obtain ⟨⟨hk, RX⟩, S3⟩ := hrel; have htl := tk_le l p 4; refine T_seq fun K8 hK8 => T_region (L_y (y_lss rfl rfl) rfl (L_nil (hK8 _ _ (T_seq fun K9 hK9 => ?_)))); refine T_cond rfl (fun h12 => ?_) (fun h12 => ?_)
   ·
    obtain ⟨x, hx⟩ : ∃ x, (tkL l p 4)[k]? = some x := ⟨_, List.getElem?_eq_getElem (by omega)⟩; have hxl := x.toNat_lt; have hbb := be_bound (k := k) (j := 3) (show k < (tkL l p 4).length by omega) htl; refine T_skip (hK9 _ _ (T_seq fun K10 hK10 => T_block (T_seq fun K11 hK11 => T_region (L_y (y_idx Tryz.underlying22 sz5 rfl rfl (RX) inferInstance (by omega)) rfl (L_y (y_ldr Tryz.underlying5 rfl rfl RX (bL_getX hx)) rfl (L_y (y_assign rfl) rfl (L_nil (hK11 _ _ (T_region (L_y (y_move rfl) rfl (L_y (y_shl rfl rfl (by omega) (shl8_32 _ hbb)) rfl ?_))))))))))); refine L_y (y_move rfl) rfl (L_y (y_conv is5 Tryz.underlying63 rfl (u32w (by omega))) rfl (L_y (y_bits rfl rfl rfl (orbe32 _ _ hbb)) rfl (L_y (y_assign rfl) rfl (L_nil (hK10 _ _ (T_region (L_y (y_add rfl rfl (i64w (by omega))) rfl (L_y (y_move rfl) rfl (L_nil (⟨k + 1, by omega, ⟨⟨by omega, RX⟩, S3⟩, ?_⟩)))))))))); exact (Sub.cons rfl (congrArg (Value.int _) (by rw [be_take hx])) (Sub.cons rfl (by first | rfl | exact congrArg (Value.int _) (by omega)) (Sub.cons rfl rfl (Sub.cons rfl rfl (Sub.nil _)))))
   ·
    have hke : k = (tkL l p 4).length := by omega
    subst hke; refine T_exit (hK6 _ _ (T_seq fun K12 hK12 => T_region (L_y (y_move rfl) rfl (L_y (y_assign rfl) rfl (L_nil (hK12 _ _ (T_ret (ur (ret1 rfl rfl ?_))))))))); first | exact ⟨_, rfl, by rw [rwL, if_neg (by omega)]; rfl, Rdd.turned (S3.turned1 0 rfl) (by rw [rwP, if_neg (by omega)]) (by rw [rwE, if_neg (by omega)])⟩ | exact ⟨_, rfl, by rw [rwL, if_pos rfl, List.take_length], Rdd.turned (S3.turned1 0 rfl) rfl rfl⟩
theorem rbyte (g : Nat) (A : Option Addr) (n c : Nat) (l : List UInt8) (p q : Nat) (w0 : World) (hw : (rdr g A n c l p q).holds w0) (hp : p ≤ l.length) (hn62 : n ≤ 4611686018427387904) :
    Calls Tryz.prog 127 #[.pointer (some ⟨g, 0, none⟩)] w0 fun e w' => ∃ u, e = .returned u ∧ u = .int .u8 (be (rwL l p q 1) : Int) ∧ Turned w0 w' (rdr g A n c l p q) (rdr g A n c l (rwP l p q 1) (rwE l p q 1)) := by
 refine enter1 (env := [(0, .pointer (some ⟨g, 0, none⟩))]) [.pointer (some ⟨g, 0, none⟩)] Tryz.func127 rfl Tryz.ntmps127 rfl rfl ?_; have hnl := rdr_len hw; have hnc := ownsRow_cap hw.2; have S0 := St.borrow1 (rdr g A n c l p q) hw (rdr_lt hw); refine T_seq fun K1 hK1 => T_region (L_y (y_assign rfl) rfl (L_nil (hK1 _ _ (T_seq fun K2 hK2 => T_seq fun K3 hK3 => T_region (L_y (y_move rfl) rfl (L_o (o_call Tryz.func137 rfl rfl (rdead g A n c l p _ w0 (S0.get 0 rfl) hp) rfl rfl ?_))))))); rintro e1 w1 ⟨v1, rfl, l1, rfl⟩; refine ⟨_, rfl, (have S1 := S0.like l1; L_nil (hK3 _ _ ?_))⟩; refine T_cond rfl (fun h5 => ?_) (fun h5 => ?_)
 ·
  refine T_seq fun K4 hK4 => T_region (L_y (y_assign rfl) rfl (L_nil (hK4 _ _ (T_ret (ur (ret1 rfl rfl ?_)))))); first | exact ⟨_, rfl, by rw [rwL, if_neg (by omega)]; rfl, Rdd.turned (S1.turned1 0 rfl) (by rw [rwP, if_neg (by omega)]) (by rw [rwE, if_neg (by omega)])⟩ | (have hk := tkE_caseN h12; exact ⟨_, rfl, by rw [rwL, if_pos rfl, tkL_no hk]; rfl, Rdd.turned (S1.turned1 0 rfl) rfl rfl⟩) | exact ⟨_, rfl, by rw [rwL, if_pos rfl, htk]; simp [be], Rdd.turned (S1.turned1 0 rfl) rfl rfl⟩
 ·
  have hq : q = 0 := by omega
  subst hq; refine T_skip (hK2 _ _ (T_seq fun K5 hK5 => T_region (L_y (y_move rfl) rfl (L_o (o_call Tryz.func139 rfl rfl (rtake g A n c l p _ 1 w1 (S1.get 0 rfl) hp (by omega) hn62) rfl rfl ?_))))); rintro e2 w2 ⟨v2, rfl, B2, d2, rfl, R2, T2⟩; refine ⟨_, rfl, (have S2 := S1.turn 0 rfl T2; have RR := R2; L_y (y_assign rfl) rfl (L_nil (hK5 _ _ (T_seq fun K6 hK6 => T_seq fun K7 hK7 => T_region (L_y (y_move rfl) rfl (L_y (y_nilp rfl) rfl (L_y (y_fieldA 2 Tryz.underlying218 rfl sz24 rfl rfl rfl) rfl (L_y (y_ldc Tryz.underlying24 rfl rfl (((S2.get 0 rfl).1.cell _).trans (by rfl))) rfl ?_))))))))⟩; refine L_y (y_neq rfl rfl) rfl (L_nil (hK7 _ _ ?_)); refine T_cond rfl (fun h12 => ?_) (fun h12 => ?_)
  ·
   refine T_seq fun K8 hK8 => T_region (L_y (y_assign rfl) rfl (L_nil (hK8 _ _ (T_ret (ur (ret1 rfl rfl ?_)))))); first | exact ⟨_, rfl, by rw [rwL, if_neg (by omega)]; rfl, Rdd.turned (S2.turned1 0 rfl) (by rw [rwP, if_neg (by omega)]) (by rw [rwE, if_neg (by omega)])⟩ | (have hk := tkE_caseN h12; exact ⟨_, rfl, by rw [rwL, if_pos rfl, tkL_no hk]; rfl, Rdd.turned (S2.turned1 0 rfl) rfl rfl⟩) | exact ⟨_, rfl, by rw [rwL, if_pos rfl, htk]; simp [be], Rdd.turned (S2.turned1 0 rfl) rfl rfl⟩
  ·
   have hk := tkE_case h12; obtain ⟨x, hx, htk, hdr⟩ := tk_one hk; rw [show bL (tkL l p 1) = bL [x] from congrArg bL htk] at RR; refine T_skip (hK6 _ _ (T_seq fun K9 hK9 => T_region (L_y (y_move rfl) rfl (L_y (y_idx Tryz.underlying22 sz5 rfl rfl (RR) inferInstance (by rw [tkL_ok hk]; decide)) rfl ?_)))); refine L_y (y_ldr Tryz.underlying5 rfl rfl RR (show ([bV x])[0]? = some (Value.int .u8 (x.toNat : Int)) from rfl)) rfl (L_y (y_assign rfl) rfl (L_nil (hK9 _ _ (T_ret (ur (ret1 rfl rfl ?_)))))); first | exact ⟨_, rfl, by rw [rwL, if_neg (by omega)]; rfl, Rdd.turned (S2.turned1 0 rfl) (by rw [rwP, if_neg (by omega)]) (by rw [rwE, if_neg (by omega)])⟩ | (have hk := tkE_caseN h12; exact ⟨_, rfl, by rw [rwL, if_pos rfl, tkL_no hk]; rfl, Rdd.turned (S2.turned1 0 rfl) rfl rfl⟩) | exact ⟨_, rfl, by rw [rwL, if_pos rfl, htk]; simp [be], Rdd.turned (S2.turned1 0 rfl) rfl rfl⟩
end Go.Proofs.YtgaklngnfecdaaaGreat.Oct
namespace Go.Proofs.YtgaklngnfecdaaaGreat.Oct
open Go.RowKit Zk Zx
theorem numF_max : ∀ (r : List UInt8) (k a : Nat), k ≤ 9 → a < 128 ^ k → (numF r k a).1 ≤ 18446744073709551615
  | [], k, a, hk, ha => by simp [numF]
  | c :: r, k, a, hk, ha => by
    have hc := c.toNat_lt
    rw [numF]
    split
    · simp
    · rename_i hF
      split
      · exact (num_lt hk ha (x := c.toNat) (by omega) (fun h => by omega)).2
      · exact numF_max r (k + 1) _ (by omega) (num_next ha)
theorem numF_back (rest : List UInt8) : ∀ (n t k a : Nat), t ≤ n → k ≤ 9 → (k = 9 → t ≤ 1) → (0 < k → 0 < t) → (t * 128 ^ k ≤ 18446744073709551615) → numF (vr t ++ rest) k a = (a + t * 128 ^ k, k + (vr t).length, 0)
  | n, t, k, a, hn, hk, h9, h0, hm => by
    by_cases hl : t < 128
    · rw [vr_low _ hl, List.singleton_append, numF, show (UInt8.ofNat t).toNat = t by rw [UInt8.toNat_ofNat']; omega, if_neg (by omega), if_pos hl, Nat.mod_eq_of_lt hl]
      rfl
    · have hk9 : k ≠ 9 := fun h => by have := h9 h; omega
      have e1 : (UInt8.ofNat (t % 128 + 128)).toNat = t % 128 + 128 := by rw [UInt8.toNat_ofNat']; omega
      have e2 : t / 128 * 128 ^ (k + 1) + t % 128 * 128 ^ k = t * 128 ^ k := by
        rw [Nat.pow_succ, Nat.mul_comm (128 ^ k), ← Nat.mul_assoc, ← Nat.add_mul]
        congr 1
        omega
      match n, hn with
      | 0, hn => exact absurd hn (by omega)
      | n + 1, hn =>
        have ih := numF_back rest n (t / 128) (k + 1) (a + t % 128 * 128 ^ k) (by omega) (by omega) (fun h => by
          have h8 : k = 8 := by omega
          subst h8
          have h4 : (128 : Nat) ^ 8 = 72057594037927936 := rfl
          rw [h4] at hm
          omega) (fun _ => by omega) (by omega)
        rw [vr_big _ (by omega), List.cons_append, numF, e1, if_neg (by omega), if_neg (by omega), show (t % 128 + 128) % 128 = t % 128 by omega, ih, List.length_cons]
        simp only [Prod.mk.injEq, and_true]
        omega
theorem numF_of_vr (rest : List UInt8) (t : Nat) (h : t ≤ 18446744073709551615) : numF (vr t ++ rest) 0 0 = (t, (vr t).length, 0) := by
  have := numF_back rest t t 0 0 (Nat.le_refl _) (by omega) (by omega) (by omega) (by omega)
  simpa using this
theorem vaN_le (l : List UInt8) (p q m : Nat) (hp : p ≤ l.length) : (vaN l p q m).2.1 ≤ l.length := by
  unfold vaN
  have := numF_at l p hp
  repeat' split
  all_goals simp only; omega
end Go.Proofs.YtgaklngnfecdaaaGreat.Oct
namespace Go.Proofs.YtgaklngnfecdaaaGreat.Oct
open Go.RowKit Zk Zx
def xr (g : Nat) (A : Option Addr) (n c p q : Nat) : Res := blk g 185 #[.slice A n c, .int .i64 (p : Int), .int .i64 (q : Int)]
theorem xr_lt {w : World} {g n c p q : Nat} {A : Option Addr} (h : (xr g A n c p q).holds w) : ∀ i, (xr g A n c p q).dom i → i < w.heap.size := fun i hi => by
  have hi' : i = g := hi
  subst hi'
  exact Blk.lt h
theorem St.rdM {w0 w : World} {M : Nat → Prop} {rs : List Res} (S : St w0 M rs w) {size n c : Nat} {A : Option Addr} {xs : List Value} (h : Rs w0 size A n c xs) (hM : ∀ ad, 0 < n → A = some ad → ¬ M ad.block) : Rs w size A n c xs :=
  (fixed size A n c xs).stable w0 w (fun i ⟨ad, hn, hA, hi⟩ => by
    subst hi
    obtain ⟨ad', hA', hb, _⟩ := h.rd.2 hn
    rw [hA] at hA'
    cases hA'
    exact S.old _ hb (hM ad hn hA)) h
theorem xr_of {w w' : World} {g n c p' q' : Nat} {A : Option Addr} {r : Res} {X : Array Value} (h : Turned w w' r (blk g 185 X)) (hX : X = #[.slice A n c, .int .i64 (p' : Int), .int .i64 (q' : Int)]) : Turned w w' r (xr g A n c p' q') := by
  subst hX
  exact h
theorem mul7 (x k : Nat) (h : x % 128 * 128 ^ k ≤ 18446744073709551615) : IntKind.u64.wrap (((x : Int) % 128) * ((128 ^ k : Nat) : Int)) = ((x % 128 * 128 ^ k : Nat) : Int) := by
  rw [show ((x : Int) % 128) * ((128 ^ k : Nat) : Int) = ((x % 128 * 128 ^ k : Nat) : Int) by push_cast; rfl, IntKind.wrap_u64]
  omega
theorem pow7s (k : Nat) (h : k ≤ 8) : IntKind.u64.wrap (((128 ^ k : Nat) : Int) * 128) = ((128 ^ (k + 1) : Nat) : Int) := by
  have := pow_eight h
  rw [IntKind.wrap_u64, Nat.pow_succ]
  omega
def nuN (l : List UInt8) (p : Nat) : Nat × Nat × Nat := if (numF (l.drop p) 0 0).2.2 = 0 then numF (l.drop p) 0 0 else (0, 0, (numF (l.drop p) 0 0).2.2)
theorem at_one {l : List UInt8} {p : Nat} (h : p < l.length) : ∃ x, l[p]? = some x ∧ l.drop p = x :: l.drop (p + 1) :=
  ⟨l[p], List.getElem?_eq_getElem h, List.drop_eq_getElem_cons h⟩
theorem xnumber (g : Nat) (A : Option Addr) (n c : Nat) (l : List UInt8) (p q : Nat) (w0 : World) (hw : (xr g A n c p q).holds w0) (hb : Rs w0 1 A n c (bL l)) (hp : p ≤ l.length) (hn62 : n ≤ 70368744177664) :
    Calls Tryz.prog 135 #[.pointer (some ⟨g, 0, none⟩)] w0 fun e w' => ∃ u, e = .returned u ∧ Like w0 w' ∧ u = .tuple #[.int .u64 ((nuN l p).1 : Int), .int .i64 ((nuN l p).2.1 : Int), .int .i64 ((nuN l p).2.2 : Int)] := by
 refine enter1 (env := [(0, .pointer (some ⟨g, 0, none⟩))]) [.pointer (some ⟨g, 0, none⟩)] Tryz.func135 rfl Tryz.ntmps135 rfl rfl ?_; have hnl := hb.lenb; have hcap := hb.cap; have hmx := hb.max; have S0 := St.start w0 noM; refine T_seq fun K1 hK1 => T_region (L_y (y_assign rfl) rfl (L_y (y_assign rfl) rfl (L_y (y_assign rfl) rfl (L_nil (hK1 _ _ (T_seq fun K2 hK2 => T_region (L_y (y_assign rfl) rfl (L_y (y_assign rfl) rfl (L_nil (hK2 _ _ (T_seq fun K3 hK3 => ?_))))))))))); refine T_seq fun K4 hK4 => T_region (L_y (y_assign rfl) rfl (L_nil (hK4 _ _ (T_block ?_)))); refine T_loop2 [(0, _)] (fun (k : Nat) (a : Nat) => [(5, .int .u64 (a : Int)), (6, .int .u64 ((128 ^ k : Nat) : Int)), (7, .int .i64 (k : Int))]) (fun (k : Nat) (a : Nat) => 10 - k) (fun (k : Nat) (a : Nat) (w : World) => ((k ≤ 9 ∧ p + k ≤ l.length ∧ a < 128 ^ k) ∧ numF (l.drop (p + k)) k a = numF (l.drop p) 0 0) ∧ St w0 noM [] w) 0 0 (Sub.cons rfl (by first | rfl | exact congrArg (Value.int _) (by first | omega | decide)) (Sub.cons rfl (by first | rfl | exact congrArg (Value.int _) (by first | omega | decide)) (Sub.cons rfl (by first | rfl | exact congrArg (Value.int _) (by first | omega | decide)) (Sub.nil _)))) (Sub.cons rfl rfl (Sub.nil _)) ?_ ?_
 ·
  exact ⟨⟨⟨by omega, by omega, by decide⟩, rfl⟩, S0⟩
 ·
  intro k a w1 hrel; obtain ⟨⟨⟨hk9, hpk, ha⟩, hN⟩, S1⟩ := hrel; refine T_seq fun K5 hK5 => T_seq fun K6 hK6 => T_region (L_y (y_move rfl) rfl (L_y (y_lss rfl rfl) rfl (L_nil (hK6 _ _ ?_)))); refine T_cond rfl (fun h10 => ?_) (fun h10 => ?_)
  ·
   refine T_skip (hK5 _ _ (T_seq fun K7 hK7 => T_block (T_seq fun K8 hK8 => T_seq fun K9 hK9 => T_drawnL [(0, true), (1, true), (2, true), (3, true), (4, true), (5, true), (6, true), (7, true), (8, true), (9, true), (10, true), (11, true)] hmix (by kernel_rfl) fun w2 l2 => have S2 := S1.like l2; DL_y rfl (y_move rfl) rfl (DL_y rfl (y_nilp rfl) rfl (DL_y rfl (y_fieldA 1 Tryz.underlying185 rfl sz3 rfl rfl rfl) rfl (DL_y rfl (y_ldc Tryz.underlying3 rfl rfl (((S2.rdB hw).cell _).trans (show (#[.slice A n c, .int .i64 (p : Int), .int .i64 (q : Int)] : Array Value)[1]? = some (Value.int .i64 (p : Int)) from rfl))) rfl (DL_y rfl (y_move rfl) rfl (DL_y rfl (y_add rfl rfl (i64w (by omega))) rfl ?_)))))))); refine DL_y rfl (y_move rfl) rfl (DL_y rfl (y_nilp rfl) rfl (DL_y rfl (y_fieldA 0 Tryz.underlying185 rfl sz22 rfl rfl rfl) rfl (DL_y rfl (y_ldc Tryz.underlying22 rfl rfl (((S2.rdB hw).cell _).trans (show (#[.slice A n c, .int .i64 (p : Int), .int .i64 (q : Int)] : Array Value)[0]? = some (Value.slice A n c) from rfl))) rfl (DL_y rfl (y_len Tryz.underlying22 rfl) rfl (DL_y rfl (y_geq rfl rfl) rfl (DL_nil (hK9 _ _ ?_))))))); refine T_cond rfl (fun h24 => ?_) (fun h24 => ?_)
   ·
    have hN2 : numF (l.drop p) 0 0 = (0, k, 10) := by rw [← hN, List.drop_eq_nil_of_le (by omega)]; rfl
    refine T_seq fun K10 hK10 => T_region (L_y (y_assign rfl) rfl (L_y (y_assign rfl) rfl (L_y (y_assign rfl) rfl (L_nil (hK10 _ _ (T_ret (ur (ret3 rfl rfl rfl rfl ?_)))))))); first | exact ⟨_, rfl, S2.like0, by rw [nuN, hN2, if_neg (by simp)]; rfl⟩ | exact ⟨_, rfl, S2.like0, by rw [nuN, hN2, if_pos (by simp)]; rfl⟩
   ·
    obtain ⟨x, hx, hdr⟩ := at_one (show p + k < l.length by omega); have hxl := x.toNat_lt; refine T_skip (hK8 _ _ (T_seq fun K11 hK11 => T_drawnL [(0, true), (1, true), (2, true), (3, true), (4, true), (5, true), (6, true), (7, true), (8, true), (9, true), (10, true), (11, true), (12, true), (13, true)] hmix (by kernel_rfl) fun w3 l3 => have S3 := S2.like l3; DL_y rfl (y_move rfl) rfl (DL_y rfl (y_nilp rfl) rfl (DL_y rfl (y_fieldA 0 Tryz.underlying185 rfl sz22 rfl rfl rfl) rfl (DL_y rfl (y_ldc Tryz.underlying22 rfl rfl (((S3.rdB hw).cell _).trans (show (#[.slice A n c, .int .i64 (p : Int), .int .i64 (q : Int)] : Array Value)[0]? = some (Value.slice A n c) from rfl))) rfl (DL_y rfl (y_move rfl) rfl (DL_y rfl (y_nilp rfl) rfl (DL_y rfl (y_fieldA 1 Tryz.underlying185 rfl sz3 rfl rfl rfl) rfl (DL_y rfl (y_ldc Tryz.underlying3 rfl rfl (((S3.rdB hw).cell _).trans (show (#[.slice A n c, .int .i64 (p : Int), .int .i64 (q : Int)] : Array Value)[1]? = some (Value.int .i64 (p : Int)) from rfl))) rfl (DL_y rfl (y_move rfl) rfl ?_)))))))))); refine DL_y rfl (y_add rfl rfl (i64w (by omega))) rfl (DL_y rfl (y_idx Tryz.underlying22 sz5 rfl rfl (S3.rd hb) inferInstance (by omega)) rfl (DL_y rfl (y_ldr Tryz.underlying5 rfl rfl (S3.rd hb) (bL_getX hx)) rfl (DL_y rfl (y_conv is5 Tryz.underlying102 rfl (u64w (by omega))) rfl (DL_y rfl (y_assign rfl) rfl (DL_nil (hK11 _ _ (T_seq fun K12 hK12 => T_seq fun K13 hK13 => T_region (L_y (y_move rfl) rfl (L_y (y_eql rfl rfl) rfl (L_y (y_move rfl) rfl ?_)))))))))); refine L_split 40 rfl (fun h40 => ?_) (fun h40 => ?_)
    ·
     refine L_gyes rfl rfl (L_y (y_move rfl) rfl (L_gyes rfl rfl (L_y (y_gtr rfl rfl) rfl (L_y (y_pk rfl rfl) rfl (L_y (y_move rfl) rfl ?_))))); refine L_split 44 rfl (fun h44 => ?_) (fun h44 => ?_)
     ·
      refine L_gno rfl rfl rfl (L_gno rfl rfl rfl (L_gno rfl rfl rfl (L_gnu rfl rfl rfl (L_gnu rfl rfl rfl (L_gno rfl rfl rfl (L_y (y_pk rfl rfl) rfl (L_nil (hK13 _ _ (T_true rfl (T_seq fun K14 hK14 => ?_)))))))))); have hF : ((k = 9 ∧ 1 < x.toNat) ∨ (0 < k ∧ x.toNat = 0)) := by omega
      have hN2 : numF (l.drop p) 0 0 = (0, k + 1, 12) := by rw [← hN, hdr, numF, if_pos hF]
      refine T_region (L_y (y_assign rfl) rfl (L_y (y_assign rfl) rfl (L_y (y_assign rfl) rfl (L_nil (hK14 _ _ (T_ret (ur (ret3 rfl rfl rfl rfl ?_)))))))); first | exact ⟨_, rfl, S3.like0, by rw [nuN, hN2, if_neg (by simp)]; rfl⟩ | exact ⟨_, rfl, S3.like0, by rw [nuN, hN2, if_pos (by simp)]; rfl⟩
     ·
      refine L_gyes rfl rfl (L_y (y_move rfl) rfl (L_gyes rfl rfl (L_y (y_gtr rfl rfl) rfl (L_gyes rfl rfl (L_y (y_move rfl) rfl ?_))))); refine L_split 47 rfl (fun h47 => ?_) (fun h47 => ?_)
      ·
       refine L_gyes rfl rfl (L_y (y_move rfl) rfl (L_gyes rfl rfl (L_y (y_eql rfl rfl) rfl (L_gyes rfl rfl (L_y (y_pk rfl rfl) rfl (L_y (y_pk rfl rfl) rfl (L_nil (hK13 _ _ ?_)))))))); refine T_cond rfl (fun h51 => ?_) (fun h51 => ?_)
       ·
        refine T_seq fun K15 hK15 => ?_; have hF : ((k = 9 ∧ 1 < x.toNat) ∨ (0 < k ∧ x.toNat = 0)) := by omega
        have hN2 : numF (l.drop p) 0 0 = (0, k + 1, 12) := by rw [← hN, hdr, numF, if_pos hF]
        refine T_region (L_y (y_assign rfl) rfl (L_y (y_assign rfl) rfl (L_y (y_assign rfl) rfl (L_nil (hK15 _ _ (T_ret (ur (ret3 rfl rfl rfl rfl ?_)))))))); first | exact ⟨_, rfl, S3.like0, by rw [nuN, hN2, if_neg (by simp)]; rfl⟩ | exact ⟨_, rfl, S3.like0, by rw [nuN, hN2, if_pos (by simp)]; rfl⟩
       ·
        refine T_skip (hK12 _ _ (T_seq fun K16 hK16 => ?_)); have hF : ¬ ((k = 9 ∧ 1 < x.toNat) ∨ (0 < k ∧ x.toNat = 0)) := by omega
        have hnm := num_lt hk9 ha (x := x.toNat) (by omega) (fun h => by omega); refine T_region (L_y (y_move rfl) rfl (L_y (y_move rfl) rfl (L_y (y_rem rfl rfl (by omega) (remI (by omega))) rfl (L_y (y_move rfl) rfl (L_y (y_mul rfl rfl (mul7 _ k hnm.1)) rfl (L_y (y_add rfl rfl (show _ = ((a + x.toNat % 128 * 128 ^ k : Nat) : Int) by rw [IntKind.wrap_u64]; omega)) rfl ?_)))))); refine L_y (y_assign rfl) rfl (L_nil (hK16 _ _ (T_seq fun K17 hK17 => T_seq fun K18 hK18 => T_region (L_y (y_move rfl) rfl (L_y (y_lss rfl rfl) rfl (L_nil (hK18 _ _ ?_))))))); refine T_cond rfl (fun h59 => ?_) (fun h59 => ?_)
        ·
         have hN2 : numF (l.drop p) 0 0 = (a + x.toNat % 128 * 128 ^ k, k + 1, 0) := by rw [← hN, hdr, numF, if_neg hF, if_pos (by omega)]
         refine T_seq fun K19 hK19 => T_region (L_y (y_move rfl) rfl (L_y (y_move rfl) rfl (L_y (y_add rfl rfl (i64w (by omega))) rfl (L_y (y_assign rfl) rfl (L_y (y_assign rfl) rfl (L_y (y_assign rfl) rfl (L_nil (hK19 _ _ (T_ret (ur (ret3 rfl rfl rfl rfl ?_))))))))))); first | exact ⟨_, rfl, S3.like0, by rw [nuN, hN2, if_neg (by simp)]; rfl⟩ | exact ⟨_, rfl, S3.like0, by rw [nuN, hN2, if_pos (by simp)]; rfl⟩
        ·
         refine T_skip (hK17 _ _ ?_); have hk8 : k ≤ 8 := by omega
         refine T_region (L_y (y_move rfl) rfl (L_y (y_mul rfl rfl (pow7s k hk8)) rfl (L_y (y_assign rfl) rfl (L_nil (hK7 _ _ (T_region (L_y (y_move rfl) rfl (L_y (y_add rfl rfl (i64w (by omega))) rfl (L_y (y_assign rfl) rfl (L_nil (⟨k + 1, a + x.toNat % 128 * 128 ^ k, by omega, ⟨⟨⟨by omega, by omega, num_next ha⟩, by rw [← hN, hdr, numF, if_neg hF, if_neg (by omega)]; rfl⟩, S3⟩, ?_⟩))))))))))); exact (Sub.cons rfl (by first | rfl | exact congrArg (Value.int _) (by omega)) (Sub.cons rfl (by first | rfl | exact congrArg (Value.int _) (by omega)) (Sub.cons rfl (by first | rfl | exact congrArg (Value.int _) (by omega)) (Sub.cons rfl rfl (Sub.nil _)))))
      ·
       refine L_gno rfl rfl rfl (L_gno rfl rfl rfl (L_gyes rfl rfl (L_y (y_pk rfl rfl) rfl (L_y (y_pk rfl rfl) rfl (L_nil (hK13 _ _ (T_false rfl (T_skip (hK12 _ _ (T_seq fun K20 hK20 => ?_)))))))))); have hF : ¬ ((k = 9 ∧ 1 < x.toNat) ∨ (0 < k ∧ x.toNat = 0)) := by omega
       have hnm := num_lt hk9 ha (x := x.toNat) (by omega) (fun h => by omega); refine T_region (L_y (y_move rfl) rfl (L_y (y_move rfl) rfl (L_y (y_rem rfl rfl (by omega) (remI (by omega))) rfl (L_y (y_move rfl) rfl (L_y (y_mul rfl rfl (mul7 _ k hnm.1)) rfl (L_y (y_add rfl rfl (show _ = ((a + x.toNat % 128 * 128 ^ k : Nat) : Int) by rw [IntKind.wrap_u64]; omega)) rfl ?_)))))); refine L_y (y_assign rfl) rfl (L_nil (hK20 _ _ (T_seq fun K21 hK21 => T_seq fun K22 hK22 => T_region (L_y (y_move rfl) rfl (L_y (y_lss rfl rfl) rfl (L_nil (hK22 _ _ ?_))))))); refine T_cond rfl (fun h59 => ?_) (fun h59 => ?_)
       ·
        have hN2 : numF (l.drop p) 0 0 = (a + x.toNat % 128 * 128 ^ k, k + 1, 0) := by rw [← hN, hdr, numF, if_neg hF, if_pos (by omega)]
        refine T_seq fun K23 hK23 => T_region (L_y (y_move rfl) rfl (L_y (y_move rfl) rfl (L_y (y_add rfl rfl (i64w (by omega))) rfl (L_y (y_assign rfl) rfl (L_y (y_assign rfl) rfl (L_y (y_assign rfl) rfl (L_nil (hK23 _ _ (T_ret (ur (ret3 rfl rfl rfl rfl ?_))))))))))); first | exact ⟨_, rfl, S3.like0, by rw [nuN, hN2, if_neg (by simp)]; rfl⟩ | exact ⟨_, rfl, S3.like0, by rw [nuN, hN2, if_pos (by simp)]; rfl⟩
       ·
        refine T_skip (hK21 _ _ ?_); have hk8 : k ≤ 8 := by omega
        refine T_region (L_y (y_move rfl) rfl (L_y (y_mul rfl rfl (pow7s k hk8)) rfl (L_y (y_assign rfl) rfl (L_nil (hK7 _ _ (T_region (L_y (y_move rfl) rfl (L_y (y_add rfl rfl (i64w (by omega))) rfl (L_y (y_assign rfl) rfl (L_nil (⟨k + 1, a + x.toNat % 128 * 128 ^ k, by omega, ⟨⟨⟨by omega, by omega, num_next ha⟩, by rw [← hN, hdr, numF, if_neg hF, if_neg (by omega)]; rfl⟩, S3⟩, ?_⟩))))))))))); exact (Sub.cons rfl (by first | rfl | exact congrArg (Value.int _) (by omega)) (Sub.cons rfl (by first | rfl | exact congrArg (Value.int _) (by omega)) (Sub.cons rfl (by first | rfl | exact congrArg (Value.int _) (by omega)) (Sub.cons rfl rfl (Sub.nil _)))))
    ·
     refine L_gno rfl rfl rfl (L_gno rfl rfl rfl (L_y (y_pk rfl rfl) rfl (L_y (y_move rfl) rfl (L_gyes rfl rfl (L_y (y_move rfl) rfl (L_gyes rfl rfl (L_y (y_gtr rfl rfl) rfl (L_gyes rfl rfl (L_y (y_move rfl) rfl ?_))))))))); refine L_split 47 rfl (fun h47 => ?_) (fun h47 => ?_)
     ·
      refine L_gyes rfl rfl (L_y (y_move rfl) rfl (L_gyes rfl rfl (L_y (y_eql rfl rfl) rfl (L_gyes rfl rfl (L_y (y_pk rfl rfl) rfl (L_y (y_pk rfl rfl) rfl (L_nil (hK13 _ _ ?_)))))))); refine T_cond rfl (fun h51 => ?_) (fun h51 => ?_)
      ·
       refine T_seq fun K24 hK24 => ?_; have hF : ((k = 9 ∧ 1 < x.toNat) ∨ (0 < k ∧ x.toNat = 0)) := by omega
       have hN2 : numF (l.drop p) 0 0 = (0, k + 1, 12) := by rw [← hN, hdr, numF, if_pos hF]
       refine T_region (L_y (y_assign rfl) rfl (L_y (y_assign rfl) rfl (L_y (y_assign rfl) rfl (L_nil (hK24 _ _ (T_ret (ur (ret3 rfl rfl rfl rfl ?_)))))))); first | exact ⟨_, rfl, S3.like0, by rw [nuN, hN2, if_neg (by simp)]; rfl⟩ | exact ⟨_, rfl, S3.like0, by rw [nuN, hN2, if_pos (by simp)]; rfl⟩
      ·
       refine T_skip (hK12 _ _ (T_seq fun K25 hK25 => ?_)); have hF : ¬ ((k = 9 ∧ 1 < x.toNat) ∨ (0 < k ∧ x.toNat = 0)) := by omega
       have hnm := num_lt hk9 ha (x := x.toNat) (by omega) (fun h => by omega); refine T_region (L_y (y_move rfl) rfl (L_y (y_move rfl) rfl (L_y (y_rem rfl rfl (by omega) (remI (by omega))) rfl (L_y (y_move rfl) rfl (L_y (y_mul rfl rfl (mul7 _ k hnm.1)) rfl (L_y (y_add rfl rfl (show _ = ((a + x.toNat % 128 * 128 ^ k : Nat) : Int) by rw [IntKind.wrap_u64]; omega)) rfl ?_)))))); refine L_y (y_assign rfl) rfl (L_nil (hK25 _ _ (T_seq fun K26 hK26 => T_seq fun K27 hK27 => T_region (L_y (y_move rfl) rfl (L_y (y_lss rfl rfl) rfl (L_nil (hK27 _ _ ?_))))))); refine T_cond rfl (fun h59 => ?_) (fun h59 => ?_)
       ·
        have hN2 : numF (l.drop p) 0 0 = (a + x.toNat % 128 * 128 ^ k, k + 1, 0) := by rw [← hN, hdr, numF, if_neg hF, if_pos (by omega)]
        refine T_seq fun K28 hK28 => T_region (L_y (y_move rfl) rfl (L_y (y_move rfl) rfl (L_y (y_add rfl rfl (i64w (by omega))) rfl (L_y (y_assign rfl) rfl (L_y (y_assign rfl) rfl (L_y (y_assign rfl) rfl (L_nil (hK28 _ _ (T_ret (ur (ret3 rfl rfl rfl rfl ?_))))))))))); first | exact ⟨_, rfl, S3.like0, by rw [nuN, hN2, if_neg (by simp)]; rfl⟩ | exact ⟨_, rfl, S3.like0, by rw [nuN, hN2, if_pos (by simp)]; rfl⟩
       ·
        refine T_skip (hK26 _ _ ?_); have hk8 : k ≤ 8 := by omega
        refine T_region (L_y (y_move rfl) rfl (L_y (y_mul rfl rfl (pow7s k hk8)) rfl (L_y (y_assign rfl) rfl (L_nil (hK7 _ _ (T_region (L_y (y_move rfl) rfl (L_y (y_add rfl rfl (i64w (by omega))) rfl (L_y (y_assign rfl) rfl (L_nil (⟨k + 1, a + x.toNat % 128 * 128 ^ k, by omega, ⟨⟨⟨by omega, by omega, num_next ha⟩, by rw [← hN, hdr, numF, if_neg hF, if_neg (by omega)]; rfl⟩, S3⟩, ?_⟩))))))))))); exact (Sub.cons rfl (by first | rfl | exact congrArg (Value.int _) (by omega)) (Sub.cons rfl (by first | rfl | exact congrArg (Value.int _) (by omega)) (Sub.cons rfl (by first | rfl | exact congrArg (Value.int _) (by omega)) (Sub.cons rfl rfl (Sub.nil _)))))
     ·
      refine L_gno rfl rfl rfl (L_gno rfl rfl rfl (L_gyes rfl rfl (L_y (y_pk rfl rfl) rfl (L_y (y_pk rfl rfl) rfl (L_nil (hK13 _ _ (T_false rfl (T_skip (hK12 _ _ (T_seq fun K29 hK29 => ?_)))))))))); have hF : ¬ ((k = 9 ∧ 1 < x.toNat) ∨ (0 < k ∧ x.toNat = 0)) := by omega
      have hnm := num_lt hk9 ha (x := x.toNat) (by omega) (fun h => by omega); refine T_region (L_y (y_move rfl) rfl (L_y (y_move rfl) rfl (L_y (y_rem rfl rfl (by omega) (remI (by omega))) rfl (L_y (y_move rfl) rfl (L_y (y_mul rfl rfl (mul7 _ k hnm.1)) rfl (L_y (y_add rfl rfl (show _ = ((a + x.toNat % 128 * 128 ^ k : Nat) : Int) by rw [IntKind.wrap_u64]; omega)) rfl ?_)))))); refine L_y (y_assign rfl) rfl (L_nil (hK29 _ _ (T_seq fun K30 hK30 => T_seq fun K31 hK31 => T_region (L_y (y_move rfl) rfl (L_y (y_lss rfl rfl) rfl (L_nil (hK31 _ _ ?_))))))); refine T_cond rfl (fun h59 => ?_) (fun h59 => ?_)
      ·
       have hN2 : numF (l.drop p) 0 0 = (a + x.toNat % 128 * 128 ^ k, k + 1, 0) := by rw [← hN, hdr, numF, if_neg hF, if_pos (by omega)]
       refine T_seq fun K32 hK32 => T_region (L_y (y_move rfl) rfl (L_y (y_move rfl) rfl (L_y (y_add rfl rfl (i64w (by omega))) rfl (L_y (y_assign rfl) rfl (L_y (y_assign rfl) rfl (L_y (y_assign rfl) rfl (L_nil (hK32 _ _ (T_ret (ur (ret3 rfl rfl rfl rfl ?_))))))))))); first | exact ⟨_, rfl, S3.like0, by rw [nuN, hN2, if_neg (by simp)]; rfl⟩ | exact ⟨_, rfl, S3.like0, by rw [nuN, hN2, if_pos (by simp)]; rfl⟩
      ·
       refine T_skip (hK30 _ _ ?_); have hk8 : k ≤ 8 := by omega
       refine T_region (L_y (y_move rfl) rfl (L_y (y_mul rfl rfl (pow7s k hk8)) rfl (L_y (y_assign rfl) rfl (L_nil (hK7 _ _ (T_region (L_y (y_move rfl) rfl (L_y (y_add rfl rfl (i64w (by omega))) rfl (L_y (y_assign rfl) rfl (L_nil (⟨k + 1, a + x.toNat % 128 * 128 ^ k, by omega, ⟨⟨⟨by omega, by omega, num_next ha⟩, by rw [← hN, hdr, numF, if_neg hF, if_neg (by omega)]; rfl⟩, S3⟩, ?_⟩))))))))))); exact (Sub.cons rfl (by first | rfl | exact congrArg (Value.int _) (by omega)) (Sub.cons rfl (by first | rfl | exact congrArg (Value.int _) (by omega)) (Sub.cons rfl (by first | rfl | exact congrArg (Value.int _) (by omega)) (Sub.cons rfl rfl (Sub.nil _)))))
  ·
   exfalso; omega
theorem new_of {w0 w : World} {M : Nat → Prop} {rs : List Res} (S : St w0 M rs w) (k : Nat) {s : Res} (hk : rs[k]? = some s) (hM : ∀ i, M i → ¬ s.dom i) : ∀ i, s.dom i → w0.heap.size ≤ i := fun i hi => by
  have h := ((S.res _ (List.mem_of_getElem? hk)).2 i hi).2
  rcases h with h | h
  · exact h
  · exact absurd hi (hM i h)
theorem nu_e (l : List UInt8) (p : Nat) : (nuN l p).2.2 = (numF (l.drop p) 0 0).2.2 := by
  unfold nuN
  split
  · rfl
  · rfl
theorem nu_ok {l : List UInt8} {p : Nat} (h : (numF (l.drop p) 0 0).2.2 = 0) : nuN l p = numF (l.drop p) 0 0 := by rw [nuN, if_pos h]
theorem nu_at (l : List UInt8) (p : Nat) (h : p ≤ l.length) : p + (nuN l p).2.1 ≤ l.length := by
  have := numF_at l p h
  unfold nuN
  split
  · exact this
  · exact h
theorem nu_max (l : List UInt8) (p : Nat) : (nuN l p).1 ≤ 18446744073709551615 := by
  have := numF_max (l.drop p) 0 0 (by omega) (by decide)
  unfold nuN
  split
  · exact this
  · simp
theorem rn_nat (l : List UInt8) (p q k : Nat) : rnL l p q (k : Int) = rwL l p q k ∧ rnP l p q (k : Int) = rwP l p q k ∧ rnE l p q (k : Int) = rwE l p q k :=
  ⟨by rw [rnL, if_neg (by omega), Int.toNat_natCast], by rw [rnP, if_neg (by omega), Int.toNat_natCast], by rw [rnE, if_neg (by omega), Int.toNat_natCast]⟩
theorem rw_dead {l : List UInt8} {p q k : Nat} (h : q ≠ 0) : rwL l p q k = [] ∧ rwP l p q k = p ∧ rwE l p q k = q := ⟨by rw [rwL, if_neg h], by rw [rwP, if_neg h], by rw [rwE, if_neg h]⟩
theorem rn_dead {l : List UInt8} {p q : Nat} {m : Int} (h : q ≠ 0) : rnL l p q m = [] ∧ rnP l p q m = p ∧ rnE l p q m = q := by
  obtain ⟨h1, h2, h3⟩ := rw_dead (l := l) (p := p) (k := m.toNat) h
  refine ⟨?_, ?_, ?_⟩
  · rw [rnL]; split; rfl; exact h1
  · rw [rnP]; split; rfl; exact h2
  · by_cases hm : m < 0; rw [rnE, if_pos hm, if_pos h]; rw [rnE, if_neg hm]; exact h3
theorem rn_neg {l : List UInt8} {p : Nat} {m : Int} (h : m < 0) : rnL l p 0 m = [] ∧ rnP l p 0 m = p ∧ rnE l p 0 m = 3 := ⟨by rw [rnL, if_pos h], by rw [rnP, if_pos h], by rw [rnE, if_pos h]; rfl⟩
theorem rn_no {l : List UInt8} {p k : Nat} (h : ¬ k ≤ l.length - p) : rnL l p 0 (k : Int) = [] ∧ rnP l p 0 (k : Int) = p ∧ rnE l p 0 (k : Int) = 10 := by
  obtain ⟨e1, e2, e3⟩ := rn_nat l p 0 k
  exact ⟨by rw [e1, rwL, if_pos rfl, tkL_no h], by rw [e2, rwP, if_pos rfl, tkP, if_neg h], by rw [e3, rwE, if_pos rfl, tkE_no h]⟩
theorem rn_ok {l : List UInt8} {p k : Nat} (h : k ≤ l.length - p) : rnL l p 0 (k : Int) = (l.drop p).take k ∧ rnP l p 0 (k : Int) = p + k ∧ rnE l p 0 (k : Int) = 0 := by
  obtain ⟨e1, e2, e3⟩ := rn_nat l p 0 k
  exact ⟨by rw [e1, rwL, if_pos rfl, tkL, if_pos h], by rw [e2, rwP, if_pos rfl, tkP, if_pos h], by rw [e3, rwE, if_pos rfl, tkE_ok h]⟩
theorem xraw (g : Nat) (A : Option Addr) (n c : Nat) (l : List UInt8) (p q : Nat) (m : Int) (w0 : World) (hw : (xr g A n c p q).holds w0) (hb : Rs w0 1 A n c (bL l)) (hp : p ≤ l.length) (hn62 : n ≤ 70368744177664) (hbg : ∀ ad, 0 < n → A = some ad → ad.block ≠ g) (hm : m ≤ 9223372036854775807) :
    Calls Tryz.prog 102 #[.pointer (some ⟨g, 0, none⟩), .int .i64 m] w0 fun e w' => ∃ u, e = .returned u ∧ Turned w0 w' (xr g A n c p q) (xr g A n c (rnP l p q m) (rnE l p q m)) ∧ ∃ B c2, u = .slice B (rnL l p q m).length c2 ∧ (row 5 1 B (rnL l p q m).length c2 (bL (rnL l p q m))).holds w' ∧ ∀ i, (row 5 1 B (rnL l p q m).length c2 (bL (rnL l p q m))).dom i → w0.heap.size ≤ i := by
 refine enter1 (env := [(0, .pointer (some ⟨g, 0, none⟩)), (1, .int .i64 m)]) [.pointer (some ⟨g, 0, none⟩), .int .i64 m] Tryz.func102 rfl Tryz.ntmps102 rfl rfl ?_; have hnl := hb.lenb; have hcap := hb.cap; have hmx := hb.max; have S0 := St.borrow1 (blk g 185 #[.slice A n c, .int .i64 (p : Int), .int .i64 (q : Int)]) hw (xr_lt hw); refine T_seq fun K1 hK1 => T_region (L_y (y_assign rfl) rfl (L_nil (hK1 _ _ (T_seq fun K2 hK2 => T_seq fun K3 hK3 => T_region (L_y (y_move rfl) rfl (L_y (y_nilp rfl) rfl (L_y (y_fieldA 2 Tryz.underlying185 rfl sz3 rfl rfl rfl) rfl (L_y (y_ldc Tryz.underlying3 rfl rfl (((S0.blk 0 rfl).cell _).trans (by rfl))) rfl ?_)))))))); refine L_y (y_neq rfl rfl) rfl (L_nil (hK3 _ _ ?_)); refine T_cond rfl (fun h10 => ?_) (fun h10 => ?_)
 ·
  refine T_seq fun K4 hK4 => T_region (L_y (y_assign rfl) rfl (L_nil (hK4 _ _ (T_ret (ur (ret1 rfl rfl ?_)))))); obtain ⟨e1, e2, e3⟩ := rn_dead (l := l) (p := p) (m := m) (show q ≠ 0 by omega); exact ⟨_, rfl, by rw [e2, e3]; exact xr_of (S0.turned1 0 rfl) rfl, none, 0, by rw [e1]; rfl, by rw [e1]; exact ⟨by simp [bL], .inl ⟨rfl, rfl⟩⟩, fun i hi => by rw [e1] at hi; simp [row, Value.ownBlock] at hi⟩
 ·
  have hq : q = 0 := by omega
  subst hq; refine T_skip (hK2 _ _ (T_seq fun K5 hK5 => T_seq fun K6 hK6 => T_region (L_y (y_move rfl) rfl (L_y (y_lss rfl rfl) rfl (L_nil (hK6 _ _ ?_)))))); refine T_cond rfl (fun h12 => ?_) (fun h12 => ?_)
  ·
   refine T_seq fun K7 hK7 => T_region (L_y (y_move rfl) rfl (L_y (y_nilp rfl) rfl (L_y (y_fieldA 2 Tryz.underlying185 rfl sz3 rfl rfl rfl) rfl (L_o (o_st1 S0 0 rfl rfl rfl rfl sz3 (by simp; done) fun w1 S1 => ?_))))); refine L_nil (hK7 _ _ (T_seq fun K8 hK8 => T_region (L_y (y_assign rfl) rfl (L_nil (hK8 _ _ (T_ret (ur (ret1 rfl rfl ?_)))))))); obtain ⟨e1, e2, e3⟩ := rn_neg (l := l) (p := p) (m := m) (by omega); exact ⟨_, rfl, by rw [e2, e3]; exact xr_of (S1.turned1 0 rfl) rfl, none, 0, by rw [e1]; rfl, by rw [e1]; exact ⟨by simp [bL], .inl ⟨rfl, rfl⟩⟩, fun i hi => by rw [e1] at hi; simp [row, Value.ownBlock] at hi⟩
  ·
   obtain ⟨k, rfl⟩ : ∃ k : Nat, m = (k : Int) := ⟨m.toNat, by omega⟩; refine T_skip (hK5 _ _ (T_seq fun K9 hK9 => T_seq fun K10 hK10 => T_drawnL [(0, true), (1, true), (2, true), (3, true), (4, true), (5, true), (6, true), (7, true), (8, true), (9, true), (10, true), (11, true)] hmix (by kernel_rfl) fun w2 l2 => have S2 := S0.like l2; DL_y rfl (y_move rfl) rfl (DL_y rfl (y_move rfl) rfl (DL_y rfl (y_nilp rfl) rfl (DL_y rfl (y_fieldA 0 Tryz.underlying185 rfl sz22 rfl rfl rfl) rfl (DL_y rfl (y_ldc Tryz.underlying22 rfl rfl (((S2.blk 0 rfl).cell _).trans (by rfl))) rfl ?_)))))); refine DL_y rfl (y_len Tryz.underlying22 rfl) rfl (DL_y rfl (y_move rfl) rfl (DL_y rfl (y_nilp rfl) rfl (DL_y rfl (y_fieldA 1 Tryz.underlying185 rfl sz3 rfl rfl rfl) rfl (DL_y rfl (y_ldc Tryz.underlying3 rfl rfl (((S2.blk 0 rfl).cell _).trans (by rfl))) rfl ?_)))); refine DL_y rfl (y_sub rfl rfl (i64w (by omega))) rfl (DL_y rfl (y_gtr rfl rfl) rfl (DL_nil (hK10 _ _ ?_))); refine T_cond rfl (fun h27 => ?_) (fun h27 => ?_)
   ·
    refine T_seq fun K11 hK11 => T_region (L_y (y_move rfl) rfl (L_y (y_nilp rfl) rfl (L_y (y_fieldA 2 Tryz.underlying185 rfl sz3 rfl rfl rfl) rfl (L_o (o_st1 S2 0 rfl rfl rfl rfl sz3 (by simp; done) fun w3 S3 => ?_))))); refine L_nil (hK11 _ _ (T_seq fun K12 hK12 => T_region (L_y (y_assign rfl) rfl (L_nil (hK12 _ _ (T_ret (ur (ret1 rfl rfl ?_)))))))); obtain ⟨e1, e2, e3⟩ := rn_no (l := l) (p := p) (k := k) (by omega); exact ⟨_, rfl, by rw [e2, e3]; exact xr_of (S3.turned1 0 rfl) rfl, none, 0, by rw [e1]; rfl, by rw [e1]; exact ⟨by simp [bL], .inl ⟨rfl, rfl⟩⟩, fun i hi => by rw [e1] at hi; simp [row, Value.ownBlock] at hi⟩
   ·
    refine T_skip (hK9 _ _ (T_seq fun K13 hK13 => T_region (have S4 := S2.nilrow 5 1; L_y (y_assign rfl) rfl (L_nil (hK13 _ _ (T_seq fun K14 hK14 => T_tail 16 hmix (by kernel_rfl) fun w5 l5 K15 hK15 => have S5 := S4.like l5; HL_y (y_move rfl) rfl (HL_y (y_move rfl) rfl (HL_y (y_nilp rfl) rfl ?_)))))))); refine HL_y (y_fieldA 0 Tryz.underlying185 rfl sz22 rfl rfl rfl) rfl (HL_y (y_ldc Tryz.underlying22 rfl rfl (((S5.blk 0 rfl).cell _).trans (by rfl))) rfl ?_); refine HL_y (y_move rfl) rfl (HL_y (y_nilp rfl) rfl (HL_y (y_fieldA 1 Tryz.underlying185 rfl sz3 rfl rfl rfl) rfl (HL_y (y_ldc Tryz.underlying3 rfl rfl (((S5.blk 0 rfl).cell _).trans (by rfl))) rfl ?_))); refine HL_y (y_move rfl) rfl (HL_y (y_nilp rfl) rfl (HL_y (y_fieldA 1 Tryz.underlying185 rfl sz3 rfl rfl rfl) rfl (HL_y (y_ldc Tryz.underlying3 rfl rfl (((S5.blk 0 rfl).cell _).trans (by rfl))) rfl ?_))); refine HL_y (y_move rfl) rfl (HL_y (y_add rfl rfl (i64w (by omega))) rfl (HL_y (y_slice Tryz.underlying22 sz5 rfl rfl rfl inferInstance inferInstance (by omega) (by omega)) rfl (HL_nil (hK15 _ (L_o (o_app te22 S5 1 rfl rfl rfl (((S5.rdM hb hbg).cutb (l := p) (u := p + k) (by omega) (by omega))) (bL_one _) rfl (by omega) (by omega) fun A6 c6 w6 S6 => L_y (y_assign rfl) rfl (L_nil (hK14 _ _ (T_seq fun K16 hK16 => T_region (L_y (y_move rfl) rfl (L_y (y_move rfl) rfl (L_y (y_nilp rfl) rfl ?_)))))))))))); refine L_y (y_fieldA 1 Tryz.underlying185 rfl sz3 rfl rfl rfl) rfl (L_y (y_ldc Tryz.underlying3 rfl rfl (((S6.blk 0 rfl).cell _).trans (by rfl))) rfl ?_); refine L_y (y_move rfl) rfl (L_y (y_add rfl rfl (i64w (by omega))) rfl (L_y (y_nilp rfl) rfl (L_y (y_fieldA 1 Tryz.underlying185 rfl sz3 rfl rfl rfl) rfl (L_o (o_st1 S6 0 rfl rfl rfl rfl sz3 (by simp; done) fun w7 S7 => ?_))))); refine L_nil (hK16 _ _ (T_seq fun K17 hK17 => T_region (L_y (y_move rfl) rfl (L_y (y_assign rfl) rfl (L_nil (hK17 _ _ (T_ret (ur (ret1 rfl rfl ?_))))))))); obtain ⟨e1, e2, e3⟩ := rn_ok (l := l) (p := p) (k := k) (by omega); have e4 : p + k - p = k := by omega
    have e5 : (rnL l p 0 (k : Int)).length = 0 + (p + k - p) := by rw [e1, List.length_take, List.length_drop]; omega
    have S99 := S7.rowc 1 rfl (n' := (rnL l p 0 (k : Int)).length) (xs' := bL (rnL l p 0 (k : Int))) e5.symm (by rw [e1, e4]; rfl); refine ⟨_, rfl, by rw [e2, e3]; exact xr_of (S99.turned1 0 rfl) rfl, _, _, by rw [e5], S99.get 1 rfl, new_of S99 1 rfl (fun i hi => St.apart_ S99 0 1 rfl rfl rfl i hi)⟩
theorem rw_le (l : List UInt8) (p q k : Nat) : (rwL l p q k).length ≤ k := by
  unfold rwL
  split
  · exact tk_le l p k
  · simp
theorem xbig (g : Nat) (A : Option Addr) (n c : Nat) (l : List UInt8) (p q : Nat) (j : Nat) (w0 : World) (hw : (xr g A n c p q).holds w0) (hb : Rs w0 1 A n c (bL l)) (hp : p ≤ l.length) (hn62 : n ≤ 70368744177664) (hbg : ∀ ad, 0 < n → A = some ad → ad.block ≠ g) (hj : j ≤ 8) :
    Calls Tryz.prog 100 #[.pointer (some ⟨g, 0, none⟩), .int .i64 (j : Int)] w0 fun e w' => ∃ u, e = .returned u ∧ u = .int .u64 (be (rwL l p q j) : Int) ∧ Turned w0 w' (xr g A n c p q) (xr g A n c (rwP l p q j) (rwE l p q j)) := by
 refine enter1 (env := [(0, .pointer (some ⟨g, 0, none⟩)), (1, .int .i64 (j : Int))]) [.pointer (some ⟨g, 0, none⟩), .int .i64 (j : Int)] Tryz.func100 rfl Tryz.ntmps100 rfl rfl ?_; have hnl := hb.lenb; have hcap := hb.cap; have hmx := hb.max; have S0 := St.borrow1 (blk g 185 #[.slice A n c, .int .i64 (p : Int), .int .i64 (q : Int)]) hw (xr_lt hw); refine T_seq fun K1 hK1 => T_region (L_y (y_assign rfl) rfl (L_nil (hK1 _ _ (T_seq fun K2 hK2 => T_region (L_y (y_move rfl) rfl (L_y (y_move rfl) rfl (L_o (o_call Tryz.func102 rfl rfl (xraw g A n c l p q (j : Int) w0 (S0.get 0 rfl) hb hp hn62 hbg (by omega)) rfl rfl ?_)))))))); rintro e1 w1 ⟨v1, rfl, T1, B9, d9, rfl, hr1, hd1⟩; refine ⟨_, rfl, ?_⟩; have S1 := S0.turn 0 rfl T1; obtain ⟨e1, e2, e3⟩ := rn_nat l p q j; have HR := rs_of_row hr1; rw [show (rnL l p q (j : Int)).length = (rwL l p q j).length from congrArg _ e1, show bL (rnL l p q (j : Int)) = bL (rwL l p q j) from congrArg _ e1] at HR; rw [show (Value.slice B9 (rnL l p q (j : Int)).length d9) = Value.slice B9 (rwL l p q j).length d9 by rw [e1]]; rw [e2, e3] at S1; have htl := rw_le l p q j; refine L_y (y_assign rfl) rfl (L_nil (hK2 _ _ (T_seq fun K3 hK3 => T_region (L_y (y_assign rfl) rfl (L_nil (hK3 _ _ (T_seq fun K4 hK4 => T_seq fun K5 hK5 => T_region (L_y (y_assign rfl) rfl (L_nil (hK5 _ _ ?_)))))))))); refine T_block ?_; refine T_loop1 [(5, _)] (fun (k : Nat) => [(6, .int .u64 (be ((rwL l p q j).take k) : Int)), (7, .int .i64 (k : Int))]) (fun (k : Nat) => (rwL l p q j).length - k) (fun (k : Nat) (w : World) => (k ≤ (rwL l p q j).length ∧ Rs w 1 B9 (rwL l p q j).length d9 (bL (rwL l p q j))) ∧ St w0 (xr g A n c p q).dom [xr g A n c (rwP l p q j) (rwE l p q j)] w) 0 (Sub.cons rfl (by first | rfl | exact congrArg (Value.int _) (by omega)) (Sub.cons rfl (by first | rfl | exact congrArg (Value.int _) (by omega)) (Sub.nil _))) (Sub.cons rfl rfl (Sub.nil _)) ?_ ?_
 ·
  exact ⟨⟨Nat.zero_le _, HR⟩, S1⟩
 ·
  intro k w2 hrel; obtain ⟨⟨hk, RX⟩, S2⟩ := hrel; refine T_seq fun K6 hK6 => T_seq fun K7 hK7 => T_region (L_y (y_move rfl) rfl (L_y (y_move rfl) rfl (L_y (y_len Tryz.underlying22 rfl) rfl (L_y (y_lss rfl rfl) rfl (L_nil (hK7 _ _ ?_)))))); refine T_cond rfl (fun h14 => ?_) (fun h14 => ?_)
  ·
   obtain ⟨x, hx⟩ : ∃ x, (rwL l p q j)[k]? = some x := ⟨_, List.getElem?_eq_getElem (by omega)⟩; have hxl := x.toNat_lt; have hbb := be_bound (k := k) (j := 7) (show k < (rwL l p q j).length by omega) (by omega); refine T_skip (hK6 _ _ (T_seq fun K8 hK8 => T_block (T_region (L_y (y_move rfl) rfl (L_y (y_mul rfl rfl (IntKind.wrap_u64 _)) rfl (L_y (y_move rfl) rfl (L_y (y_move rfl) rfl (L_y (y_idx Tryz.underlying22 sz5 rfl rfl (RX) inferInstance (by omega)) rfl (L_y (y_ldr Tryz.underlying5 rfl rfl RX (bL_getX hx)) rfl (L_y (y_conv is5 Tryz.underlying102 rfl (u64w (by omega))) rfl (L_y (y_add rfl rfl (IntKind.wrap_u64 _)) rfl (L_y (y_assign rfl) rfl ?_)))))))))))); refine L_nil (hK8 _ _ (T_region (L_y (y_move rfl) rfl (L_y (y_add rfl rfl (i64w (by omega))) rfl (L_y (y_assign rfl) rfl (L_nil (⟨k + 1, by omega, ⟨⟨by omega, RX⟩, S2⟩, ?_⟩))))))); exact (Sub.cons rfl (congrArg (Value.int _) (by rw [be_take hx]; omega)) (Sub.cons rfl (by first | rfl | exact congrArg (Value.int _) (by omega)) (Sub.cons rfl rfl (Sub.nil _))))
  ·
   have hke : k = (rwL l p q j).length := by omega
   subst hke; refine T_exit (hK4 _ _ (T_seq fun K9 hK9 => T_region (L_y (y_move rfl) rfl (L_y (y_assign rfl) rfl (L_nil (hK9 _ _ (T_ret (ur (ret1 rfl rfl ?_))))))))); exact ⟨_, rfl, by rw [List.take_length], S2.turned1 0 rfl⟩
theorem xvar (g : Nat) (A : Option Addr) (n c : Nat) (l : List UInt8) (p q : Nat) (m : Nat) (w0 : World) (hw : (xr g A n c p q).holds w0) (hb : Rs w0 1 A n c (bL l)) (hp : p ≤ l.length) (hn62 : n ≤ 70368744177664) (hbg : ∀ ad, 0 < n → A = some ad → ad.block ≠ g) :
    Calls Tryz.prog 101 #[.pointer (some ⟨g, 0, none⟩), .int .u64 (m : Int)] w0 fun e w' => ∃ u, e = .returned u ∧ u = .int .u64 ((vaN l p q m).1 : Int) ∧ Turned w0 w' (xr g A n c p q) (xr g A n c (vaN l p q m).2.1 (vaN l p q m).2.2) := by
 refine enter1 (env := [(0, .pointer (some ⟨g, 0, none⟩)), (1, .int .u64 (m : Int))]) [.pointer (some ⟨g, 0, none⟩), .int .u64 (m : Int)] Tryz.func101 rfl Tryz.ntmps101 rfl rfl ?_; have hnl := hb.lenb; have hcap := hb.cap; have hmx := hb.max; have S0 := St.borrow1 (blk g 185 #[.slice A n c, .int .i64 (p : Int), .int .i64 (q : Int)]) hw (xr_lt hw); refine T_seq fun K1 hK1 => T_region (L_y (y_assign rfl) rfl (L_nil (hK1 _ _ (T_seq fun K2 hK2 => T_seq fun K3 hK3 => T_region (L_y (y_move rfl) rfl (L_y (y_nilp rfl) rfl (L_y (y_fieldA 2 Tryz.underlying185 rfl sz3 rfl rfl rfl) rfl (L_y (y_ldc Tryz.underlying3 rfl rfl (((S0.blk 0 rfl).cell _).trans (by rfl))) rfl ?_)))))))); refine L_y (y_neq rfl rfl) rfl (L_nil (hK3 _ _ ?_)); refine T_cond rfl (fun h12 => ?_) (fun h12 => ?_)
 ·
  refine T_seq fun K4 hK4 => T_region (L_y (y_assign rfl) rfl (L_nil (hK4 _ _ (T_ret (ur (ret1 rfl rfl ?_)))))); have hV : vaN l p q m = (0, p, q) := by rw [vaN, if_pos (by omega)]
  exact ⟨_, rfl, by rw [hV]; rfl, by rw [hV]; exact xr_of (S0.turned1 0 rfl) rfl⟩
 ·
  have hq : q = 0 := by omega
  subst hq; refine T_skip (hK2 _ _ (T_seq fun K5 hK5 => T_region (L_y (y_move rfl) rfl (L_o (o_call Tryz.func135 rfl rfl (xnumber g A n c l p _ w0 (S0.get 0 rfl) hb hp hn62) rfl rfl ?_))))); rintro e1 w1 ⟨v1, rfl, l1, rfl⟩; refine ⟨_, rfl, (have S1 := S0.like l1; have hE := nu_e l p; have hat := nu_at l p hp; have hmx2 := nu_max l p; L_y (y_move rfl) rfl (L_y (y_extract rfl rfl) rfl (L_y (y_extract rfl rfl) rfl (L_y (y_extract rfl rfl) rfl (L_y (y_assign rfl) rfl (L_y (y_assign rfl) rfl (L_y (y_assign rfl) rfl (L_nil (hK5 _ _ ?_)))))))))⟩; refine T_seq fun K6 hK6 => T_seq fun K7 hK7 => T_region (L_y (y_move rfl) rfl (L_y (y_eql rfl rfl) rfl (L_y (y_move rfl) rfl ?_))); refine L_split 21 rfl (fun h21 => ?_) (fun h21 => ?_)
  ·
   refine L_gyes rfl rfl (L_y (y_move rfl) rfl (L_gyes rfl rfl (L_y (y_move rfl) rfl (L_gyes rfl rfl (L_y (y_gtr rfl rfl) rfl (L_y (y_pk rfl rfl) rfl (L_nil (hK7 _ _ ?_)))))))); refine T_cond rfl (fun h25 => ?_) (fun h25 => ?_)
   ·
    refine T_region (L_y (y_assign rfl) rfl (L_nil (hK6 _ _ (T_seq fun K8 hK8 => T_seq fun K9 hK9 => T_region (L_y (y_move rfl) rfl (L_y (y_neq rfl rfl) rfl (L_nil (hK9 _ _ ?_)))))))); refine T_cond rfl (fun h27 => ?_) (fun h27 => ?_)
    ·
     refine T_seq fun K10 hK10 => T_region (L_y (y_move rfl) rfl (L_y (y_move rfl) rfl (L_y (y_nilp rfl) rfl (L_y (y_fieldA 2 Tryz.underlying185 rfl sz3 rfl rfl rfl) rfl (L_o (o_st1 S1 0 rfl rfl rfl rfl sz3 (by simp; done) fun w3 S3 => ?_)))))); refine L_nil (hK10 _ _ (T_seq fun K11 hK11 => T_region (L_y (y_assign rfl) rfl (L_nil (hK11 _ _ (T_ret (ur (ret1 rfl rfl ?_)))))))); have hV : vaN l p 0 m = (0, p, 3) := by rw [vaN, if_neg (by omega), if_neg (by omega), if_pos (by rw [← nu_ok (by omega)]; omega)]
     exact ⟨_, rfl, by rw [hV]; rfl, by rw [hV]; exact xr_of (S3.turned1 0 rfl) rfl⟩
    ·
     refine T_skip (hK8 _ _ (T_seq fun K12 hK12 => T_region (L_y (y_move rfl) rfl (L_y (y_move rfl) rfl (L_y (y_nilp rfl) rfl (L_y (y_fieldA 1 Tryz.underlying185 rfl sz3 rfl rfl rfl) rfl (L_y (y_ldc Tryz.underlying3 rfl rfl (((S1.blk 0 rfl).cell _).trans (by rfl))) rfl ?_))))))); refine L_y (y_move rfl) rfl (L_y (y_add rfl rfl (i64w (by omega))) rfl (L_y (y_nilp rfl) rfl (L_y (y_fieldA 1 Tryz.underlying185 rfl sz3 rfl rfl rfl) rfl (L_o (o_st1 S1 0 rfl rfl rfl rfl sz3 (by simp; done) fun w4 S4 => ?_))))); refine L_nil (hK12 _ _ (T_seq fun K13 hK13 => T_region (L_y (y_move rfl) rfl (L_y (y_assign rfl) rfl (L_nil (hK13 _ _ (T_ret (ur (ret1 rfl rfl ?_))))))))); exfalso; omega
   ·
    refine T_skip (hK6 _ _ (T_seq fun K14 hK14 => T_seq fun K15 hK15 => T_region (L_y (y_move rfl) rfl (L_y (y_neq rfl rfl) rfl (L_nil (hK15 _ _ ?_)))))); refine T_cond rfl (fun h27 => ?_) (fun h27 => ?_)
    ·
     refine T_seq fun K16 hK16 => T_region (L_y (y_move rfl) rfl (L_y (y_move rfl) rfl (L_y (y_nilp rfl) rfl (L_y (y_fieldA 2 Tryz.underlying185 rfl sz3 rfl rfl rfl) rfl (L_o (o_st1 S1 0 rfl rfl rfl rfl sz3 (by simp; done) fun w5 S5 => ?_)))))); refine L_nil (hK16 _ _ (T_seq fun K17 hK17 => T_region (L_y (y_assign rfl) rfl (L_nil (hK17 _ _ (T_ret (ur (ret1 rfl rfl ?_)))))))); exfalso; omega
    ·
     refine T_skip (hK14 _ _ (T_seq fun K18 hK18 => T_region (L_y (y_move rfl) rfl (L_y (y_move rfl) rfl (L_y (y_nilp rfl) rfl (L_y (y_fieldA 1 Tryz.underlying185 rfl sz3 rfl rfl rfl) rfl (L_y (y_ldc Tryz.underlying3 rfl rfl (((S1.blk 0 rfl).cell _).trans (by rfl))) rfl ?_))))))); refine L_y (y_move rfl) rfl (L_y (y_add rfl rfl (i64w (by omega))) rfl (L_y (y_nilp rfl) rfl (L_y (y_fieldA 1 Tryz.underlying185 rfl sz3 rfl rfl rfl) rfl (L_o (o_st1 S1 0 rfl rfl rfl rfl sz3 (by simp; done) fun w6 S6 => ?_))))); refine L_nil (hK18 _ _ (T_seq fun K19 hK19 => T_region (L_y (y_move rfl) rfl (L_y (y_assign rfl) rfl (L_nil (hK19 _ _ (T_ret (ur (ret1 rfl rfl ?_))))))))); have hV : vaN l p 0 m = ((nuN l p).1, p + (nuN l p).2.1, 0) := by rw [vaN, if_neg (by omega), if_neg (by omega), if_neg (by rw [← nu_ok (by omega)]; omega), nu_ok (by omega)]
     exact ⟨_, rfl, by rw [hV]; rfl, by rw [hV]; exact xr_of (S6.turned1 0 rfl) rfl⟩
  ·
   refine L_gno rfl rfl rfl (L_gno rfl rfl rfl (L_gno rfl rfl rfl (L_y (y_pk rfl rfl) rfl (L_nil (hK7 _ _ (T_false rfl (T_skip (hK6 _ _ (T_seq fun K20 hK20 => T_seq fun K21 hK21 => T_region (L_y (y_move rfl) rfl (L_y (y_neq rfl rfl) rfl ?_))))))))))); refine L_nil (hK21 _ _ ?_); refine T_cond rfl (fun h27 => ?_) (fun h27 => ?_)
   ·
    refine T_seq fun K22 hK22 => T_region (L_y (y_move rfl) rfl (L_y (y_move rfl) rfl (L_y (y_nilp rfl) rfl (L_y (y_fieldA 2 Tryz.underlying185 rfl sz3 rfl rfl rfl) rfl (L_o (o_st1 S1 0 rfl rfl rfl rfl sz3 (by simp; done) fun w7 S7 => ?_)))))); refine L_nil (hK22 _ _ (T_seq fun K23 hK23 => T_region (L_y (y_assign rfl) rfl (L_nil (hK23 _ _ (T_ret (ur (ret1 rfl rfl ?_)))))))); have hV : vaN l p 0 m = (0, p, (nuN l p).2.2) := by rw [vaN, if_neg (by omega), if_pos (by omega), hE]
    exact ⟨_, rfl, by rw [hV]; rfl, by rw [hV]; exact xr_of (S7.turned1 0 rfl) rfl⟩
   ·
    refine T_skip (hK20 _ _ (T_seq fun K24 hK24 => T_region (L_y (y_move rfl) rfl (L_y (y_move rfl) rfl (L_y (y_nilp rfl) rfl (L_y (y_fieldA 1 Tryz.underlying185 rfl sz3 rfl rfl rfl) rfl (L_y (y_ldc Tryz.underlying3 rfl rfl (((S1.blk 0 rfl).cell _).trans (by rfl))) rfl ?_))))))); refine L_y (y_move rfl) rfl (L_y (y_add rfl rfl (i64w (by omega))) rfl (L_y (y_nilp rfl) rfl (L_y (y_fieldA 1 Tryz.underlying185 rfl sz3 rfl rfl rfl) rfl (L_o (o_st1 S1 0 rfl rfl rfl rfl sz3 (by simp; done) fun w8 S8 => ?_))))); refine L_nil (hK24 _ _ (T_seq fun K25 hK25 => T_region (L_y (y_move rfl) rfl (L_y (y_assign rfl) rfl (L_nil (hK25 _ _ (T_ret (ur (ret1 rfl rfl ?_))))))))); exfalso; omega
end Go.Proofs.YtgaklngnfecdaaaGreat.Oct
namespace Go.Proofs.YtgaklngnfecdaaaGreat.Del
end Go.Proofs.YtgaklngnfecdaaaGreat.Del
namespace Go.Proofs.YtgaklngnfecdaaaGreat.Del
open Go.RowKit Zk Zx Oct
def encO (o : OV) : List UInt8 := if o.cp then 1 :: (vr o.fr.toNat ++ vr o.n.toNat) else 0 :: (vr o.l.length ++ o.l)
def encV (b t : Int) (l : List OV) : List UInt8 := vr b.toNat ++ vr t.toNat ++ l.flatMap encO
def putR (b t : Int) (l : List OV) : List UInt8 × Int := if errV b t l ≠ 0 then ([], errV b t l) else (encV b t l, 0)
theorem put_err {b t : Int} {l : List OV} (h : errV b t l ≠ 0) : putR b t l = ([], errV b t l) := by unfold putR; rw [if_pos h]
theorem put_ok {b t : Int} {l : List OV} (h : errV b t l = 0) : putR b t l = (encV b t l, 0) := by unfold putR; rw [if_neg (fun x => x h)]
theorem enc_cp {o : OP} (h : o.cp = true) : encO o.v = [1] ++ (vr o.fr.toNat ++ vr o.n.toNat) := by
  unfold encO
  rw [if_pos (show o.v.cp = true from h)]
  rfl
theorem enc_new {o : OP} (h : o.cp = false) : encO o.v = [0] ++ (vr o.p.l.length ++ o.p.l) := by
  unfold encO
  rw [if_neg (show ¬ o.v.cp = true from by rw [show o.v.cp = o.cp from rfl, h]; exact Bool.false_ne_true)]
  rfl
theorem enc_step {b t : Int} {l : List OP} {k : Nat} {o : OP} (ho : l[k]? = some o) : encV b t ((l.take (k + 1)).map OP.v) = encV b t ((l.take k).map OP.v) ++ encO o.v := by
  unfold encV
  rw [take1 ho, List.map_append, List.flatMap_append, List.append_assoc, List.append_assoc, List.append_assoc]
  simp
theorem vr_len4 (x : Nat) (h : x ≤ 5000) : (vr x).length ≤ 2 := vr_len x 1 (by omega)
theorem wt_fresh {w w' : World} {b : Nat} (h : w.heap.size ≤ b) (hw : (wt b none 0 0 []).holds w') : ∀ i, (wt b none 0 0 []).dom i → w.heap.size ≤ i ∧ i < w'.heap.size := fun i hi => by
  refine ⟨?_, wt_lt hw i hi⟩
  rcases hi with hi | hi
  · have hi' : i = b := hi
    omega
  · cases hi
theorem i_u64 {x : Int} (h : 0 ≤ x) (h2 : x ≤ 5000) : IntKind.u64.wrap x = ((x.toNat : Nat) : Int) := by
  rw [IntKind.wrap_u64]
  omega
theorem pput (A : Option Addr) (n c : Nat) (l : List OP) (b t : Int) (w0 : World) (hl : Rs w0 4 A n c (l.flatMap opf)) (hok : OkO w0 l) (hn4 : n ≤ 4000) :
    Calls Tryz.prog 122 #[.agg (scA b t A n c)] w0 fun e w' => ∃ u, e = .returned u ∧ Like w0 w' ∧ ∃ A' c', u = .tuple #[.slice A' (putR b t (l.map OP.v)).1.length c', .int .i64 (putR b t (l.map OP.v)).2] ∧ w'.ownsRow w0.heap.size 5 1 (.slice A' (putR b t (l.map OP.v)).1.length c') (putR b t (l.map OP.v)).1.length (bL (putR b t (l.map OP.v)).1) := by
 refine enter1 (env := [(0, .agg (scA b t A n c))]) [.agg (scA b t A n c)] Tryz.func122 rfl Tryz.ntmps122 rfl rfl ?_; have hn := ops_n hl; have hcap := hl.cap; have hmax := hl.max; have S0 := St.start w0 noM; refine T_seq fun K1 hK1 => T_region (L_o (o_box rfl S0 rfl fun b1 w1 hb1 S1 => L_y (y_assign rfl) rfl (L_y (y_assign rfl) rfl (L_nil (hK1 _ _ (T_seq fun K2 hK2 => T_seq fun K3 hK3 => T_region (L_y (y_ldW Tryz.underlying179 rfl sz179 rfl (S1.blk 0 rfl) (show _ = (scA b t A n c).toList ∧ _ from ⟨rfl, rfl⟩)) rfl (L_o (o_call Tryz.func134 rfl rfl (pcheck A n c l b t w1 (S1.rd hl) (hok.like S1.like0)) rfl rfl ?_))))))))); rintro e2 w2 ⟨v2, rfl, l2, rfl⟩; refine ⟨_, rfl, (have S2 := S1.like l2; L_y (y_assign rfl) rfl (L_nil (hK3 _ _ (T_seq fun K4 hK4 => T_region (L_y (y_move rfl) rfl (L_y (y_neq rfl rfl) rfl (L_nil (hK4 _ _ ?_))))))))⟩; refine T_cond rfl (fun h11 => ?_) (fun h11 => ?_)
 ·
  refine T_seq fun K5 hK5 => T_region (L_y (y_move rfl) rfl (L_y (y_assign rfl) rfl (L_y (y_assign rfl) rfl (L_nil (hK5 _ _ (T_ret (ur (ret2 rfl rfl rfl ?_)))))))); first | exact ⟨_, rfl, S2.like0, none, 0, by rw [put_err h11]; rfl, by rw [put_err h11]; exact World.ownsRow_nil _ _ _ _⟩ | (have hke : k = n := by omega); subst hke; rw [List.take_of_length_le (by omega)] at hm; have hO := S2.own 2 rfl; have hL := (S2.row 2 rfl).lenb; subst hm; obtain rfl := hL; exact ⟨_, rfl, S2.like0, _, _, by rw [put_ok h110], by rw [put_ok h110]; exact hO⟩
 ·
  have h110 := Decidable.byContradiction h11; obtain ⟨hrg, hall⟩ := errV_zero h110; refine T_skip (hK2 _ _ (T_seq fun K6 hK6 => T_region (L_o (o_call Tryz.func164 rfl rfl (wnew w2) rfl rfl ?_)))); rintro e3 w3 ⟨v3, rfl, l3, g, rfl, hb3, hh3⟩; refine ⟨_, rfl, (have S3 := S2.new l3 _ hh3 (wt_fresh hb3 hh3); L_y (y_assign rfl) rfl (L_nil (hK6 _ _ (T_seq fun K7 hK7 => T_region (L_y (y_move rfl) rfl (L_y (y_fieldA 0 Tryz.underlying179 rfl sz3 rfl rfl rfl) rfl (L_y (y_ldc Tryz.underlying3 rfl rfl (((S3.blk 0 rfl).cell _).trans (by rfl))) rfl ?_)))))))⟩; refine L_y (y_conv is3 Tryz.underlying102 rfl (i_u64 (by omega) (by omega))) rfl (L_o (o_call Tryz.func91 rfl rfl (wvar g _ _ _ _ b.toNat w3 (S3.get 1 rfl) (by omega) (by simp)) rfl rfl ?_)); rintro e4 w4 ⟨v4, rfl, ⟨A4, n4, c4, T4⟩⟩; refine ⟨_, rfl, (have S4 := S3.turn 1 rfl T4; L_nil (hK7 _ _ (T_seq fun K8 hK8 => T_region (L_y (y_move rfl) rfl (L_y (y_fieldA 1 Tryz.underlying179 rfl sz3 rfl rfl rfl) rfl (L_y (y_ldc Tryz.underlying3 rfl rfl (((S4.blk 0 rfl).cell _).trans (by rfl))) rfl ?_))))))⟩; refine L_y (y_conv is3 Tryz.underlying102 rfl (i_u64 (by omega) (by omega))) rfl (L_o (o_call Tryz.func91 rfl rfl (wvar g _ _ _ _ t.toNat w4 (S4.get 1 rfl) (by omega) (by have := vr_len4 b.toNat (by omega); simp; omega)) rfl rfl ?_)); rintro e5 w5 ⟨v5, rfl, ⟨A23, n23, c23, T5⟩⟩; refine ⟨_, rfl, (have S5 := S4.turn 1 rfl T5; L_nil (hK8 _ _ (T_seq fun K9 hK9 => T_seq fun K10 hK10 => T_region (L_y (y_fieldA 2 Tryz.underlying179 rfl sz177 rfl rfl rfl) rfl (L_y (y_ldc Tryz.underlying177 rfl rfl (((S5.blk 0 rfl).cell _).trans (by rfl))) rfl ?_)))))⟩; refine L_y (y_len Tryz.underlying177 rfl) rfl (L_y (y_move rfl) rfl (L_nil (hK10 _ _ (T_block ?_)))); refine T_loop6 [(5, _), (25, _), (26, _)] (fun (k : Nat) (left : Int) (m : List UInt8) (A1 : Option Addr) (n1 : Nat) (c1 : Nat) => [(27, .int .i64 (k : Int))]) (fun (k : Nat) (left : Int) (m : List UInt8) (A1 : Option Addr) (n1 : Nat) (c1 : Nat) => n - k) (fun (k : Nat) (left : Int) (m : List UInt8) (A1 : Option Addr) (n1 : Nat) (c1 : Nat) (w : World) => (k ≤ n ∧ 0 ≤ left ∧ left ≤ 4000 ∧ chkL b left ((l.map OP.v).drop k) = true ∧ m = encV b t ((l.take k).map OP.v) ∧ m.length + left.toNat ≤ 4020 + 21 * k) ∧ St w0 noM [blk b1 179 (scA b t A n c), wt g A1 n1 c1 m] w) 0 t ([] ++ vr b.toNat ++ vr t.toNat) A23 n23 c23 (Sub.cons rfl (by first | rfl | exact congrArg (Value.int _) (by omega)) (Sub.nil _)) (Sub.cons rfl rfl (Sub.cons rfl rfl (Sub.cons rfl rfl (Sub.nil _)))) ?_ ?_
  ·
   exact ⟨⟨Nat.zero_le _, by omega, by omega, hall, by simp [encV], by have := vr_len4 b.toNat (by omega); have := vr_len4 t.toNat (by omega); simp; omega⟩, S5⟩
  ·
   intro k left m A1 n1 c1 w6 hrel; obtain ⟨⟨hk, hl0, hl1, hch, hm, hml⟩, S6⟩ := hrel; refine T_seq fun K11 hK11 => T_region (L_y (y_lss rfl rfl) rfl (L_nil (hK11 _ _ (T_seq fun K12 hK12 => ?_)))); refine T_cond rfl (fun h28 => ?_) (fun h28 => ?_)
   ·
    obtain ⟨o, ho⟩ : ∃ o, l[k]? = some o := ⟨_, List.getElem?_eq_getElem (by omega)⟩; have hop := hok o (List.mem_of_getElem? ho); have hopn := hop.lenb; have hopc := hop.cap; have hopm := hop.max; obtain ⟨hrt, hsz, hrest⟩ := chkL_next ho hch; have hs1 := sz_nonneg hrt; refine T_skip (hK12 _ _ (T_seq fun K13 hK13 => T_block (T_seq fun K14 hK14 => T_region (L_y (y_idx Tryz.underlying177 sz221 rfl rfl (S6.rd hl) (Nt.mk (by omega) : Nt _ (k)) (by omega)) rfl (L_y (y_ldp (f := opf) opf_len Tryz.underlying221 rfl sz221 rfl (S6.rd hl) (by omega) ho) rfl (L_o (o_alloc zz221 S6 rfl fun b7 w7 hb7 S7 => L_o (o_stW S7 2 rfl rfl rfl sz221 rfl (opf_one o) fun w8 S8 => L_nil (hK14 _ _ (T_seq fun K15 hK15 => T_region ?_)))))))))); refine L_y (y_fieldA 0 Tryz.underlying221 rfl sz4 rfl rfl rfl) rfl (L_y (y_ldc Tryz.underlying4 rfl rfl (((S8.blk 2 rfl).cell _).trans (by rfl))) rfl ?_); refine L_nil (hK15 _ _ ?_); refine T_condB rfl (fun h32 => ?_) (fun h32 => ?_)
    ·
     have hcp : o.cp = true := h32; obtain ⟨g1, g2, g3, g4, g5⟩ := rt_cp hrt hcp; refine T_seq fun K16 hK16 => T_region (L_y (y_move rfl) rfl (L_o (o_call Tryz.func89 rfl rfl (wbyte g _ _ _ _ 1 w8 (S8.get 1 rfl) (by omega)) rfl rfl ?_))); rintro e9 w9 ⟨v9, rfl, ⟨A9, n9, c9, T9⟩⟩; refine ⟨_, rfl, (have S9 := S8.turn 1 rfl T9; L_nil (hK16 _ _ (T_seq fun K17 hK17 => T_region (L_y (y_move rfl) rfl (L_y (y_fieldA 1 Tryz.underlying221 rfl sz3 rfl rfl rfl) rfl (L_y (y_ldc Tryz.underlying3 rfl rfl (((S9.blk 2 rfl).cell _).trans (by rfl))) rfl ?_))))))⟩; refine L_y (y_conv is3 Tryz.underlying102 rfl (i_u64 (by omega) (by omega))) rfl (L_o (o_call Tryz.func91 rfl rfl (wvar g _ _ _ _ o.fr.toNat w9 (S9.get 1 rfl) (by omega) (by simp; omega)) rfl rfl ?_)); rintro e10 w10 ⟨v10, rfl, ⟨A10, n10, c10, T10⟩⟩; refine ⟨_, rfl, (have S10 := S9.turn 1 rfl T10; L_nil (hK17 _ _ (T_region (L_y (y_move rfl) rfl (L_y (y_fieldA 2 Tryz.underlying221 rfl sz3 rfl rfl rfl) rfl (L_y (y_ldc Tryz.underlying3 rfl rfl (((S10.blk 2 rfl).cell _).trans (by rfl))) rfl ?_))))))⟩; refine L_y (y_conv is3 Tryz.underlying102 rfl (i_u64 (by omega) (by omega))) rfl (L_o (o_call Tryz.func91 rfl rfl (wvar g _ _ _ _ o.n.toNat w10 (S10.get 1 rfl) (by omega) (by have := vr_len4 o.fr.toNat (by omega); simp; omega)) rfl rfl ?_)); rintro e11 w11 ⟨v11, rfl, ⟨A11, n11, c11, T11⟩⟩; refine ⟨_, rfl, (have S11 := S10.turn 1 rfl T11; L_nil (hK13 _ _ (T_region (L_y (y_add rfl rfl (i64w (by omega))) rfl (L_y (y_move rfl) rfl (L_nil (have S91 := S11.drop (rs' := [_, _]) (.cons_cons _ (.cons_cons _ (.cons _ (.refl _)))); ⟨k + 1, left - szV o.v, _, _, _, _, by omega, ⟨⟨by omega, by omega, by omega, hrest, by rw [hm, enc_step ho, enc_cp hcp]; simp [List.append_assoc, ByteArray.size], by have := vr_len4 o.fr.toNat (by omega); have := vr_len4 o.n.toNat (by omega); simp; omega⟩, S91⟩, ?_⟩)))))))⟩; exact (Sub.cons rfl (by first | rfl | exact congrArg (Value.int _) (by omega)) (Sub.cons rfl rfl (Sub.cons rfl rfl (Sub.cons rfl rfl (Sub.nil _)))))
    ·
     have hcp : o.cp = false := h32; obtain ⟨g1, g2⟩ := rt_new hrt hcp; refine T_seq fun K18 hK18 => T_region (L_y (y_move rfl) rfl (L_o (o_call Tryz.func89 rfl rfl (wbyte g _ _ _ _ 0 w8 (S8.get 1 rfl) (by omega)) rfl rfl ?_))); rintro e12 w12 ⟨v12, rfl, ⟨A12, n12, c12, T12⟩⟩; refine ⟨_, rfl, (have S12 := S8.turn 1 rfl T12; L_nil (hK18 _ _ (T_region (L_y (y_move rfl) rfl (L_y (y_fieldA 3 Tryz.underlying221 rfl sz22 rfl rfl rfl) rfl (L_y (y_ldc Tryz.underlying22 rfl rfl (((S12.blk 2 rfl).cell _).trans (by rfl))) rfl ?_))))))⟩; refine L_y (y_bstr Tryz.underlying22 Tryz.underlying5 Tryz.underlying9 rfl (S12.rd hop)) rfl (L_o (o_call Tryz.func165 rfl rfl (wtext g _ _ _ _ ⟨o.p.l.toArray⟩ w12 (S12.get 1 rfl) (by simp [ByteArray.size]; omega)) rfl rfl ?_)); rintro e13 w13 ⟨v13, rfl, ⟨A13, n13, c13, T13⟩⟩; refine ⟨_, rfl, (have S13 := S12.turn 1 rfl T13; L_nil (hK13 _ _ (T_region (L_y (y_add rfl rfl (i64w (by omega))) rfl (L_y (y_move rfl) rfl (L_nil (have S91 := S13.drop (rs' := [_, _]) (.cons_cons _ (.cons_cons _ (.cons _ (.refl _)))); ⟨k + 1, left - szV o.v, _, _, _, _, by omega, ⟨⟨by omega, by omega, by omega, hrest, by rw [hm, enc_step ho, enc_new hcp]; simp [List.append_assoc, ByteArray.size], by have := vr_len4 o.p.l.length (by omega); simp [ByteArray.size]; omega⟩, S91⟩, ?_⟩)))))))⟩; exact (Sub.cons rfl (by first | rfl | exact congrArg (Value.int _) (by omega)) (Sub.cons rfl rfl (Sub.cons rfl rfl (Sub.cons rfl rfl (Sub.nil _)))))
   ·
    refine T_exit (hK9 _ _ (T_seq fun K19 hK19 => T_region (L_y (y_move rfl) rfl (L_o (o_call Tryz.func59 rfl rfl (wbytes g _ _ _ _ w6 (S6.get 1 rfl) (by omega)) rfl rfl ?_))))); rintro e14 w14 ⟨v14, rfl, l14, A14, m14, c14, rfl, O14⟩; refine ⟨_, rfl, (have S14 := S6.adopt l14 O14; L_y (y_assign rfl) rfl (L_y (y_assign rfl) rfl (L_nil (hK19 _ _ (T_ret (ur (ret2 rfl rfl rfl ?_)))))))⟩; first | exact ⟨_, rfl, S14.like0, none, 0, by rw [put_err h11]; rfl, by rw [put_err h11]; exact World.ownsRow_nil _ _ _ _⟩ | (have hke : k = n := by omega); subst hke; rw [List.take_of_length_le (by omega)] at hm; have hO := S14.own 2 rfl; have hL := (S14.row 2 rfl).lenb; subst hm; obtain rfl := hL; exact ⟨_, rfl, S14.like0, _, _, by rw [put_ok h110], by rw [put_ok h110]; exact hO⟩
end Go.Proofs.YtgaklngnfecdaaaGreat.Del
namespace Go.Proofs.YtgaklngnfecdaaaGreat.Del
open Go.RowKit Zk Zx Oct
def okP (w : World) (B : Nat) (ps : List Part) : Prop := ∀ p ∈ ps, p.ok w ∧ p.n ≤ B
theorem okP.nil (w : World) (B : Nat) : okP w B [] := fun p hp => by cases hp
theorem okP.cons {w : World} {B : Nat} {p : Part} {ps : List Part} (h1 : p.ok w) (h2 : p.n ≤ B) (h : okP w B ps) : okP w B (p :: ps) := fun q hq => by
  rcases List.mem_cons.1 hq with rfl | hq
  · exact ⟨h1, h2⟩
  · exact h q hq
theorem okP.like {w w' : World} {B : Nat} {ps : List Part} (h : okP w B ps) (lk : Like w w') : okP w' B ps := fun p hp => ⟨Rs.like (h p hp).1 lk, (h p hp).2⟩
theorem getP {ps : List Part} {k : Nat} {p : Part} (hp : ps[k]? = some p) : (ps.map pv)[k]? = some (.slice p.A p.n p.c) := by rw [List.getElem?_map, hp]; rfl
end Go.Proofs.YtgaklngnfecdaaaGreat.Del
namespace Go.Proofs.YtgaklngnfecdaaaGreat.Del
open Go.RowKit Zk Zx Oct
end Go.Proofs.YtgaklngnfecdaaaGreat.Del
namespace Go.Proofs.YtgaklngnfecdaaaGreat.Del
open Go.RowKit Zk Zx Oct
end Go.Proofs.YtgaklngnfecdaaaGreat.Del
namespace Go.Proofs.YtgaklngnfecdaaaGreat.Del
open Go.RowKit Zk Zx Oct
structure RO where
  o : OV
  p : Nat
  q : Nat
  e : Int
def zO : OV := ⟨false, 0, 0, []⟩
def zP : OP := ⟨false, 0, 0, p0⟩
def rdN (d : List UInt8) (p q : Nat) (base f : Int) (cp : Bool) : RO :=
  if (vaN d p q 4000).2.2 ≠ 0 then ⟨zO, (vaN d p q 4000).2.1, (vaN d p q 4000).2.2, (vaN d p q 4000).2.2⟩
  else if (vaN d p q 4000).1 = 0 then ⟨zO, (vaN d p q 4000).2.1, 0, 12⟩
  else if cp then (if base - ((vaN d p q 4000).1 : Int) < f then ⟨zO, (vaN d p q 4000).2.1, 0, 21⟩ else ⟨⟨true, f, ((vaN d p q 4000).1 : Int), []⟩, (vaN d p q 4000).2.1, 0, 0⟩)
  else ⟨⟨false, 0, 0, rnL d (vaN d p q 4000).2.1 0 ((vaN d p q 4000).1 : Int)⟩, rnP d (vaN d p q 4000).2.1 0 ((vaN d p q 4000).1 : Int), rnE d (vaN d p q 4000).2.1 0 ((vaN d p q 4000).1 : Int), (rnE d (vaN d p q 4000).2.1 0 ((vaN d p q 4000).1 : Int) : Int)⟩
def rdO (d : List UInt8) (p : Nat) (x : UInt8) (base : Int) : RO :=
  if 1 < x.toNat then ⟨zO, p + 1, 0, 19⟩
  else if x.toNat = 1 then rdN d (vaN d (p + 1) 0 4000).2.1 (vaN d (p + 1) 0 4000).2.2 base ((vaN d (p + 1) 0 4000).1 : Int) true
  else rdN d (p + 1) 0 base 0 false
section
variable {d : List UInt8} {p q : Nat} {base f : Int} {x : UInt8} {cp : Bool}
theorem rdO_bad (h : 1 < x.toNat) : rdO d p x base = ⟨zO, p + 1, 0, 19⟩ := by unfold rdO; rw [if_pos h]
theorem rdO_cp (h : x.toNat = 1) : rdO d p x base = rdN d (vaN d (p + 1) 0 4000).2.1 (vaN d (p + 1) 0 4000).2.2 base ((vaN d (p + 1) 0 4000).1 : Int) true := by unfold rdO; rw [if_neg (by omega), if_pos h]
theorem rdO_new (h : ¬ 1 < x.toNat) (h2 : ¬ x.toNat = 1) : rdO d p x base = rdN d (p + 1) 0 base 0 false := by unfold rdO; rw [if_neg h, if_neg h2]
theorem rdN_err (h : (vaN d p q 4000).2.2 ≠ 0) : rdN d p q base f cp = ⟨zO, (vaN d p q 4000).2.1, (vaN d p q 4000).2.2, (vaN d p q 4000).2.2⟩ := by unfold rdN; rw [if_pos h]
theorem rdN_zero (h : (vaN d p q 4000).2.2 = 0) (h2 : (vaN d p q 4000).1 = 0) : rdN d p q base f cp = ⟨zO, (vaN d p q 4000).2.1, 0, 12⟩ := by unfold rdN; rw [if_neg (by omega), if_pos h2]
theorem rdN_far (h : (vaN d p q 4000).2.2 = 0) (h2 : ¬ (vaN d p q 4000).1 = 0) (h3 : base - ((vaN d p q 4000).1 : Int) < f) : rdN d p q base f true = ⟨zO, (vaN d p q 4000).2.1, 0, 21⟩ := by unfold rdN; rw [if_neg (by omega), if_neg h2, if_pos rfl, if_pos h3]
theorem rdN_cp (h : (vaN d p q 4000).2.2 = 0) (h2 : ¬ (vaN d p q 4000).1 = 0) (h3 : ¬ base - ((vaN d p q 4000).1 : Int) < f) : rdN d p q base f true = ⟨⟨true, f, ((vaN d p q 4000).1 : Int), []⟩, (vaN d p q 4000).2.1, 0, 0⟩ := by unfold rdN; rw [if_neg (by omega), if_neg h2, if_pos rfl, if_neg h3]
theorem rdN_new (h : (vaN d p q 4000).2.2 = 0) (h2 : ¬ (vaN d p q 4000).1 = 0) : rdN d p q base f false = ⟨⟨false, 0, 0, rnL d (vaN d p q 4000).2.1 0 ((vaN d p q 4000).1 : Int)⟩, rnP d (vaN d p q 4000).2.1 0 ((vaN d p q 4000).1 : Int), rnE d (vaN d p q 4000).2.1 0 ((vaN d p q 4000).1 : Int), (rnE d (vaN d p q 4000).2.1 0 ((vaN d p q 4000).1 : Int) : Int)⟩ := by unfold rdN; rw [if_neg (by omega), if_neg h2, if_neg Bool.false_ne_true]
theorem vaN_m (d : List UInt8) (p q m : Nat) : (vaN d p q m).1 ≤ m := by
  unfold vaN
  repeat' split
  all_goals simp only; omega
end
theorem rnP_le (l : List UInt8) (p q : Nat) (m : Int) (hp : p ≤ l.length) : rnP l p q m ≤ l.length := by
  unfold rnP rwP
  split
  · exact hp
  · split
    · exact tkP_le l p _ hp
    · exact hp
def rowP (p : Part) : Res := row 5 1 p.A p.n p.c (bL p.l)
theorem p0_holds (w : World) : (rowP p0).holds w := World.ownsRow_nil _ _ _ _
theorem p0_dom {i : Nat} {Q : Prop} (h : (rowP p0).dom i) : Q := by simp [rowP, p0, row, Value.ownBlock] at h
theorem rbyte1 (g : Nat) (A : Option Addr) (n c : Nat) (l : List UInt8) (p : Nat) (x : UInt8) (w0 : World) (hw : (rdr g A n c l p 0).holds w0) (hx : l[p]? = some x) (hn62 : n ≤ 4611686018427387904) :
    Calls Tryz.prog 127 #[.pointer (some ⟨g, 0, none⟩)] w0 fun e w' => ∃ u, e = .returned u ∧ u = .int .u8 (x.toNat : Int) ∧ Turned w0 w' (rdr g A n c l p 0) (rdr g A n c l (p + 1) 0) := by
  have hp := (List.getElem?_eq_some_iff.1 hx).1
  refine (rbyte g A n c l p 0 w0 hw (by omega) hn62).mono fun e w' ⟨u, h1, h2, h3⟩ => ⟨u, h1, ?_, ?_⟩
  · obtain ⟨y, hy, htk, _⟩ := tk_one (show 1 ≤ l.length - p by omega)
    rw [hx] at hy
    obtain rfl := Option.some.inj hy
    rw [h2, rwL, if_pos rfl, htk]
    simp [be]
  · exact Rdd.turned h3 (by rw [rwP, if_pos rfl, tkP, if_pos (by omega)]) (by rw [rwE, if_pos rfl, tkE_ok (by omega)])
theorem rop (g : Nat) (A : Option Addr) (n c : Nat) (l : List UInt8) (p : Nat) (x : UInt8) (base : Int) (w0 : World) (hw : (rdr g A n c l p 0).holds w0) (hx : l[p]? = some x) (hn5 : n ≤ 10000) (hb : 0 ≤ base ∧ base ≤ 4000) :
    Calls Tryz.prog 132 #[.pointer (some ⟨g, 0, none⟩), .int .i64 base] w0 fun e w' => ∃ u, e = .returned u ∧ Turned w0 w' (rdr g A n c l p 0) (rdr g A n c l (rdO l p x base).p (rdO l p x base).q) ∧ ∃ o : OP, u = .tuple #[.agg (opf o).toArray, .int .i64 (rdO l p x base).e] ∧ o.v = (rdO l p x base).o ∧ (rowP o.p).holds w' ∧ ∀ i, (rowP o.p).dom i → w0.heap.size ≤ i := by
 refine enter1 (env := [(0, .pointer (some ⟨g, 0, none⟩)), (1, .int .i64 base)]) [.pointer (some ⟨g, 0, none⟩), .int .i64 base] Tryz.func132 rfl Tryz.ntmps132 rfl rfl ?_; have hnl := rdr_len hw; have hnc := ownsRow_cap hw.2; have hpl := (List.getElem?_eq_some_iff.1 hx).1; have hxl := x.toNat_lt; have S0 := St.borrow1 (rdr g A n c l p 0) hw (rdr_lt hw); refine T_seq fun K1 hK1 => T_region (L_o (o_alloc zz221 S0 rfl fun b1 w1 hb1 S1 => L_y (y_assign rfl) rfl (L_nil (hK1 _ _ (T_seq fun K2 hK2 => T_region (L_y (y_move rfl) rfl (L_o (o_call Tryz.func127 rfl rfl (rbyte1 g A n c l p x w1 (S1.get 0 rfl) hx (by omega)) rfl rfl ?_)))))))); rintro e2 w2 ⟨v2, rfl, rfl, T2⟩; refine ⟨_, rfl, (have S2 := S1.turn 0 rfl T2; L_y (y_assign rfl) rfl (L_nil (hK2 _ _ (T_seq fun K3 hK3 => T_seq fun K4 hK4 => T_region (L_y (y_move rfl) rfl (L_y (y_gtr rfl rfl) rfl (L_nil (hK4 _ _ ?_))))))))⟩; refine T_cond rfl (fun h13 => ?_) (fun h13 => ?_)
 ·
  refine T_seq fun K5 hK5 => T_region (L_y (y_build rfl (show _ = some #[Value.bool false, Value.int .i64 0, Value.int .i64 0, Value.slice none 0 0] by kernel_rfl)) rfl (L_o (o_stW S2 1 rfl rfl rfl sz221 rfl (by first | exact opf_one _ | (intro u hu; simp at hu; rcases hu with rfl | rfl | rfl | rfl <;> rfl)) fun w3 S3 => ?_))); refine L_y (y_assign rfl) rfl (L_nil (hK5 _ _ (T_ret (ur (retct rfl rfl rfl (S3.blk 1 rfl) Tryz.underlying221 rfl (by exact sz221) ?_))))); rw [rdO_bad (by omega)]; exact ⟨_, rfl, S3.turned1 0 rfl, zP, rfl, rfl, p0_holds _, fun i hi => p0_dom hi⟩
 ·
  refine T_skip (hK3 _ _ (T_seq fun K6 hK6 => T_region (L_y (y_move rfl) rfl (L_y (y_eql rfl rfl) rfl (L_y (y_build rfl (show _ = some #[Value.bool (decide ((x.toNat : Int) = 1)), Value.int .i64 0, Value.int .i64 0, Value.slice none 0 0] by kernel_rfl)) rfl ?_))))); refine L_o (o_alloc zz221 S2 rfl fun b4 w4 hb4 S4 => L_o (o_stW S4 2 rfl rfl rfl sz221 rfl (by intro u hu; simp at hu; rcases hu with rfl | rfl | rfl | rfl <;> rfl) fun w5 S5 => ?_)); refine L_nil (hK6 _ _ (T_seq fun K7 hK7 => T_seq fun K8 hK8 => T_region (L_y (y_fieldA 0 Tryz.underlying221 rfl sz4 rfl rfl rfl) rfl (L_y (y_ldc Tryz.underlying4 rfl rfl (((S5.blk 2 rfl).cell _).trans (by rfl))) rfl ?_)))); refine L_nil (hK8 _ _ ?_); refine T_cond rfl (fun h19 => ?_) (fun h19 => ?_)
  ·
   have hx1 : x.toNat = 1 := by omega
   rw [decide_eq_true (show ((x.toNat : Nat) : Int) = 1 by omega)] at S5; refine T_region (L_y (y_move rfl) rfl (L_o (o_call Tryz.func129 rfl rfl (rvar g A n c l (p + 1) 0 4000 w5 (S5.get 0 rfl) (by omega) (by omega)) rfl rfl ?_))); rintro e6 w6 ⟨v6, rfl, rfl, T6⟩; refine ⟨_, rfl, (have S6 := S5.turn 0 rfl T6; have hF := vaN_le l (p + 1) 0 4000 (by omega); have hFm := vaN_m l (p + 1) 0 4000; L_y (y_conv is102 Tryz.underlying3 rfl (i64w (by omega))) rfl (L_y (y_fieldA 1 Tryz.underlying221 rfl sz3 rfl rfl rfl) rfl (L_o (o_st1 S6 2 rfl rfl rfl rfl sz3 (by simp; done) fun w7 S7 => ?_))))⟩; refine L_nil (hK7 _ _ (T_seq fun K9 hK9 => T_region (L_y (y_move rfl) rfl (L_o (o_call Tryz.func129 rfl rfl (rvar g A n c l _ _ 4000 w7 (S7.get 0 rfl) (by omega) (by omega)) rfl rfl ?_))))); rintro e8 w8 ⟨v8, rfl, rfl, T8⟩; refine ⟨_, rfl, (have S8 := S7.turn 0 rfl T8; have hG := vaN_le l (vaN l (p + 1) 0 4000).2.1 (vaN l (p + 1) 0 4000).2.2 4000 (by omega); have hGm := vaN_m l (vaN l (p + 1) 0 4000).2.1 (vaN l (p + 1) 0 4000).2.2 4000; L_y (y_conv is102 Tryz.underlying3 rfl (i64w (by omega))) rfl (L_y (y_assign rfl) rfl (L_nil (hK9 _ _ (T_seq fun K10 hK10 => T_seq fun K11 hK11 => T_region (L_y (y_move rfl) rfl (L_o (o_call Tryz.func128 rfl rfl (rerr g A n c l _ _ w8 (S8.get 0 rfl) (by omega)) rfl rfl ?_))))))))⟩; rintro e9 w9 ⟨v9, rfl, l9, rfl⟩; refine ⟨_, rfl, (have S9 := S8.like l9; L_y (y_assign rfl) rfl (L_nil (hK11 _ _ (T_seq fun K12 hK12 => T_region (L_y (y_move rfl) rfl (L_y (y_neq rfl rfl) rfl (L_nil (hK12 _ _ ?_))))))))⟩; refine T_cond rfl (fun h30 => ?_) (fun h30 => ?_)
   ·
    refine T_seq fun K13 hK13 => T_region (L_y (y_build rfl (show _ = some #[Value.bool false, Value.int .i64 0, Value.int .i64 0, Value.slice none 0 0] by kernel_rfl)) rfl (L_y (y_move rfl) rfl (L_o (o_stW S9 1 rfl rfl rfl sz221 rfl (by first | exact opf_one _ | (intro u hu; simp at hu; rcases hu with rfl | rfl | rfl | rfl <;> rfl)) fun w10 S10 => ?_)))); refine L_y (y_assign rfl) rfl (L_nil (hK13 _ _ (T_ret (ur (retct rfl rfl rfl (S10.blk 1 rfl) Tryz.underlying221 rfl (by exact sz221) ?_))))); rw [rdO_cp hx1, rdN_err (by omega)]; exact ⟨_, rfl, S10.turned1 0 rfl, zP, rfl, rfl, p0_holds _, fun i hi => p0_dom hi⟩
   ·
    have hq0 : (vaN l (vaN l (p + 1) 0 4000).2.1 (vaN l (p + 1) 0 4000).2.2 4000).2.2 = 0 := by omega
    rw [hq0] at S9; refine T_skip (hK10 _ _ (T_seq fun K14 hK14 => T_seq fun K15 hK15 => T_region (L_y (y_move rfl) rfl (L_y (y_eql rfl rfl) rfl (L_nil (hK15 _ _ ?_)))))); refine T_cond rfl (fun h34 => ?_) (fun h34 => ?_)
    ·
     refine T_seq fun K16 hK16 => T_region (L_y (y_build rfl (show _ = some #[Value.bool false, Value.int .i64 0, Value.int .i64 0, Value.slice none 0 0] by kernel_rfl)) rfl (L_o (o_stW S9 1 rfl rfl rfl sz221 rfl (by first | exact opf_one _ | (intro u hu; simp at hu; rcases hu with rfl | rfl | rfl | rfl <;> rfl)) fun w11 S11 => ?_))); refine L_y (y_assign rfl) rfl (L_nil (hK16 _ _ (T_ret (ur (retct rfl rfl rfl (S11.blk 1 rfl) Tryz.underlying221 rfl (by exact sz221) ?_))))); rw [rdO_cp hx1, rdN_zero hq0 (by omega)]; exact ⟨_, rfl, S11.turned1 0 rfl, zP, rfl, rfl, p0_holds _, fun i hi => p0_dom hi⟩
    ·
     refine T_skip (hK14 _ _ (T_seq fun K17 hK17 => T_seq fun K18 hK18 => T_region (L_y (y_fieldA 0 Tryz.underlying221 rfl sz4 rfl rfl rfl) rfl (L_y (y_ldc Tryz.underlying4 rfl rfl (((S9.blk 2 rfl).cell _).trans (by rfl))) rfl ?_)))); refine L_y ((by first | exact y_notD rfl | exact y_not rfl)) rfl ?_; refine L_nil (hK18 _ _ (T_false rfl (T_skip (hK17 _ _ (T_seq fun K19 hK19 => T_region (L_y (y_move rfl) rfl (L_y (y_fieldA 2 Tryz.underlying221 rfl sz3 rfl rfl rfl) rfl (L_o (o_st1 S9 2 rfl rfl rfl rfl sz3 (by simp; done) fun w12 S12 => ?_))))))))); refine L_nil (hK19 _ _ (T_seq fun K20 hK20 => T_seq fun K21 hK21 => T_region (L_y (y_fieldA 1 Tryz.underlying221 rfl sz3 rfl rfl rfl) rfl (L_y (y_ldc Tryz.underlying3 rfl rfl (((S12.blk 2 rfl).cell _).trans (by rfl))) rfl ?_)))); refine L_y (y_move rfl) rfl (L_y (y_move rfl) rfl (L_y (y_sub rfl rfl (i64w (by omega))) rfl (L_y (y_gtr rfl rfl) rfl (L_nil (hK21 _ _ ?_))))); refine T_cond rfl (fun h53 => ?_) (fun h53 => ?_)
     ·
      refine T_seq fun K22 hK22 => T_region (L_y (y_build rfl (show _ = some #[Value.bool false, Value.int .i64 0, Value.int .i64 0, Value.slice none 0 0] by kernel_rfl)) rfl (L_o (o_stW S12 1 rfl rfl rfl sz221 rfl (by first | exact opf_one _ | (intro u hu; simp at hu; rcases hu with rfl | rfl | rfl | rfl <;> rfl)) fun w13 S13 => ?_))); refine L_y (y_assign rfl) rfl (L_nil (hK22 _ _ (T_ret (ur (retct rfl rfl rfl (S13.blk 1 rfl) Tryz.underlying221 rfl (by exact sz221) ?_))))); rw [rdO_cp hx1, rdN_far hq0 (by omega) (by omega)]; exact ⟨_, rfl, S13.turned1 0 rfl, zP, rfl, rfl, p0_holds _, fun i hi => p0_dom hi⟩
     ·
      refine T_skip (hK20 _ _ (T_seq fun K23 hK23 => T_region (L_y (y_ldW Tryz.underlying221 rfl sz221 rfl (S12.blk 2 rfl) (show _ = (opf ⟨true, ((vaN l (p + 1) 0 4000).1 : Int), ((vaN l (vaN l (p + 1) 0 4000).2.1 (vaN l (p + 1) 0 4000).2.2 4000).1 : Int), p0⟩) ∧ _ from ⟨rfl, rfl⟩)) rfl (L_o (o_stW S12 1 rfl rfl rfl sz221 rfl (by first | exact opf_one _ | (intro u hu; simp at hu; rcases hu with rfl | rfl | rfl | rfl <;> rfl)) fun w14 S14 => ?_))))); refine L_y (y_assign rfl) rfl (L_nil (hK23 _ _ (T_ret (ur (retct rfl rfl rfl (S14.blk 1 rfl) Tryz.underlying221 rfl (by exact sz221) ?_))))); rw [rdO_cp hx1, rdN_cp hq0 (by omega) (by omega)]; exact ⟨_, rfl, S14.turned1 0 rfl, ⟨true, ((vaN l (p + 1) 0 4000).1 : Int), _, p0⟩, rfl, rfl, p0_holds _, fun i hi => p0_dom hi⟩
  ·
   have hx1 : ¬ x.toNat = 1 := by omega
   rw [decide_eq_false (show ¬ ((x.toNat : Nat) : Int) = 1 by omega)] at S5; refine T_skip (hK7 _ _ (T_seq fun K24 hK24 => T_region (L_y (y_move rfl) rfl (L_o (o_call Tryz.func129 rfl rfl (rvar g A n c l _ _ 4000 w5 (S5.get 0 rfl) (by omega) (by omega)) rfl rfl ?_))))); rintro e15 w15 ⟨v15, rfl, rfl, T15⟩; refine ⟨_, rfl, (have S15 := S5.turn 0 rfl T15; have hG := vaN_le l (p + 1) 0 4000 (by omega); have hGm := vaN_m l (p + 1) 0 4000; L_y (y_conv is102 Tryz.underlying3 rfl (i64w (by omega))) rfl (L_y (y_assign rfl) rfl (L_nil (hK24 _ _ (T_seq fun K25 hK25 => T_seq fun K26 hK26 => T_region (L_y (y_move rfl) rfl (L_o (o_call Tryz.func128 rfl rfl (rerr g A n c l _ _ w15 (S15.get 0 rfl) (by omega)) rfl rfl ?_))))))))⟩; rintro e16 w16 ⟨v16, rfl, l16, rfl⟩; refine ⟨_, rfl, (have S16 := S15.like l16; L_y (y_assign rfl) rfl (L_nil (hK26 _ _ (T_seq fun K27 hK27 => T_region (L_y (y_move rfl) rfl (L_y (y_neq rfl rfl) rfl (L_nil (hK27 _ _ ?_))))))))⟩; refine T_cond rfl (fun h30 => ?_) (fun h30 => ?_)
   ·
    refine T_seq fun K28 hK28 => T_region (L_y (y_build rfl (show _ = some #[Value.bool false, Value.int .i64 0, Value.int .i64 0, Value.slice none 0 0] by kernel_rfl)) rfl (L_y (y_move rfl) rfl (L_o (o_stW S16 1 rfl rfl rfl sz221 rfl (by first | exact opf_one _ | (intro u hu; simp at hu; rcases hu with rfl | rfl | rfl | rfl <;> rfl)) fun w17 S17 => ?_)))); refine L_y (y_assign rfl) rfl (L_nil (hK28 _ _ (T_ret (ur (retct rfl rfl rfl (S17.blk 1 rfl) Tryz.underlying221 rfl (by exact sz221) ?_))))); rw [rdO_new (by omega) (by omega), rdN_err (by omega)]; exact ⟨_, rfl, S17.turned1 0 rfl, zP, rfl, rfl, p0_holds _, fun i hi => p0_dom hi⟩
   ·
    have hq0 : (vaN l (p + 1) 0 4000).2.2 = 0 := by omega
    rw [hq0] at S16; refine T_skip (hK25 _ _ (T_seq fun K29 hK29 => T_seq fun K30 hK30 => T_region (L_y (y_move rfl) rfl (L_y (y_eql rfl rfl) rfl (L_nil (hK30 _ _ ?_)))))); refine T_cond rfl (fun h34 => ?_) (fun h34 => ?_)
    ·
     refine T_seq fun K31 hK31 => T_region (L_y (y_build rfl (show _ = some #[Value.bool false, Value.int .i64 0, Value.int .i64 0, Value.slice none 0 0] by kernel_rfl)) rfl (L_o (o_stW S16 1 rfl rfl rfl sz221 rfl (by first | exact opf_one _ | (intro u hu; simp at hu; rcases hu with rfl | rfl | rfl | rfl <;> rfl)) fun w18 S18 => ?_))); refine L_y (y_assign rfl) rfl (L_nil (hK31 _ _ (T_ret (ur (retct rfl rfl rfl (S18.blk 1 rfl) Tryz.underlying221 rfl (by exact sz221) ?_))))); rw [rdO_new (by omega) (by omega), rdN_zero hq0 (by omega)]; exact ⟨_, rfl, S18.turned1 0 rfl, zP, rfl, rfl, p0_holds _, fun i hi => p0_dom hi⟩
    ·
     refine T_skip (hK29 _ _ (T_seq fun K32 hK32 => T_seq fun K33 hK33 => T_region (L_y (y_fieldA 0 Tryz.underlying221 rfl sz4 rfl rfl rfl) rfl (L_y (y_ldc Tryz.underlying4 rfl rfl (((S16.blk 2 rfl).cell _).trans (by rfl))) rfl ?_)))); refine L_y ((by first | exact y_notD rfl | exact y_not rfl)) rfl ?_; refine L_nil (hK33 _ _ (T_true rfl (T_seq fun K34 hK34 => T_region (L_y (y_move rfl) rfl (L_y (y_move rfl) rfl (L_o (o_call Tryz.func104 rfl rfl (rraw g A n c l _ _ _ w16 (S16.get 0 rfl) (by omega) (by omega) (by omega)) rfl rfl ?_))))))); rintro e19 w19 ⟨v19, rfl, T19, B7, d7, rfl, hr19, hd19⟩; refine ⟨_, rfl, (have S19 := S16.turn 0 rfl T19; have S20 := St.newT S16 0 rfl T19 (fun i hi => hi) hr19 (fun i hi => ⟨hd19 i hi, (World.ownsRow.lt hr19 i hi).2⟩); have hdR := fun i hi => Nat.le_trans S16.size (hd19 i hi); have hRP := rnP_le l (vaN l (p + 1) 0 4000).2.1 0 ((vaN l (p + 1) 0 4000).1 : Int) (by omega); L_y (y_fieldA 3 Tryz.underlying221 rfl sz22 rfl rfl rfl) rfl (L_o (o_st1 S20 2 rfl rfl rfl rfl sz22 (by simp; done) fun w21 S21 => ?_)))⟩; refine L_nil (hK34 _ _ (T_seq fun K35 hK35 => T_zed [0, 1, 2] 3 [(0, 1), (1, 1), (2, 2), (3, 3), (4, 3)] hmix (by kernel_rfl) fun w22 l22 => have S22 := S21.like l22; ZA_B (Like w22) (Like.refl _) (ZB_y rfl (y_ldW Tryz.underlying221 rfl sz221 rfl (S22.blk 2 rfl) (show _ = (opf ⟨false, 0, 0, ⟨B7, (rnL l (vaN l (p + 1) 0 4000).2.1 0 ((vaN l (p + 1) 0 4000).1 : Int)).length, d7, rnL l (vaN l (p + 1) 0 4000).2.1 0 ((vaN l (p + 1) 0 4000).1 : Int)⟩⟩) ∧ _ from ⟨rfl, rfl⟩)) rfl (ZB_y rfl (y_move rfl) rfl (ZB_o rfl (o_call Tryz.func128 rfl rfl (rerr g A n c l _ _ w22 (S22.get 0 rfl) (by omega)) rfl rfl ?_)))))); rintro e23 w23 ⟨v23, rfl, l23, rfl⟩; refine ⟨_, rfl, l23, (have S23 := S22.like l23; have q23 := l23; ZB_c rfl (o_stW S23 1 rfl rfl rfl sz221 rfl (by first | exact opf_one _ | (intro u hu; simp at hu; rcases hu with rfl | rfl | rfl | rfl <;> rfl)) fun w24 S24 => ?_))⟩; refine ZA_oy rfl (y_assign rfl) rfl (ZA_nil (hK35 _ _ (T_ret (ur (retct rfl rfl rfl (S24.blk 1 rfl) Tryz.underlying221 rfl (by exact sz221) ?_))))); rw [rdO_new (by omega) (by omega), rdN_new hq0 (by omega)]; exact ⟨_, rfl, S24.turned1 0 rfl, ⟨false, 0, 0, ⟨B7, _, d7, rnL l (vaN l (p + 1) 0 4000).2.1 0 ((vaN l (p + 1) 0 4000).1 : Int)⟩⟩, rfl, rfl, S24.get 3 rfl, fun i hi => hdR i hi⟩
end Go.Proofs.YtgaklngnfecdaaaGreat.Del
namespace Go.Proofs.YtgaklngnfecdaaaGreat.Del
open Go.RowKit Zk Zx Oct
theorem vaN_ge (d : List UInt8) (p q m : Nat) : p ≤ (vaN d p q m).2.1 := by
  unfold vaN
  repeat' split
  all_goals simp only; omega
theorem rdN_ok {d : List UInt8} {p q : Nat} {base f : Int} {cp : Bool} (hp : p ≤ d.length) (h : (rdN d p q base f cp).e = 0) : (rdN d p q base f cp).q = 0 ∧ p ≤ (rdN d p q base f cp).p ∧ (rdN d p q base f cp).p ≤ d.length ∧ 1 ≤ szV (rdN d p q base f cp).o := by
  have hg := vaN_ge d p q 4000
  have hl := vaN_le d p q 4000 hp
  by_cases h1 : (vaN d p q 4000).2.2 = 0
  · by_cases h2 : (vaN d p q 4000).1 = 0
    · rw [rdN_zero h1 h2] at h
      exact absurd h (by show ¬ (12 : Int) = 0; decide)
    · cases cp with
      | true =>
        by_cases h3 : base - ((vaN d p q 4000).1 : Int) < f
        · rw [rdN_far h1 h2 h3] at h
          exact absurd h (by show ¬ (21 : Int) = 0; decide)
        · rw [rdN_cp h1 h2 h3]
          exact ⟨rfl, hg, hl, by show (1 : Int) ≤ ((vaN d p q 4000).1 : Int); omega⟩
      | false =>
        rw [rdN_new h1 h2] at h ⊢
        have h' : rnE d (vaN d p q 4000).2.1 0 ((vaN d p q 4000).1 : Int) = 0 := by
          have : (rnE d (vaN d p q 4000).2.1 0 ((vaN d p q 4000).1 : Int) : Int) = 0 := h
          omega
        by_cases h4 : (vaN d p q 4000).1 ≤ d.length - (vaN d p q 4000).2.1
        · obtain ⟨e1, e2, e3⟩ := rn_ok h4
          rw [e1, e2, e3]
          refine ⟨rfl, (by show p ≤ _ + _; omega), (by show _ + _ ≤ d.length; omega), ?_⟩
          show (1 : Int) ≤ ((((d.drop (vaN d p q 4000).2.1).take (vaN d p q 4000).1).length : Nat) : Int)
          rw [List.length_take, List.length_drop]
          omega
        · obtain ⟨e1, e2, e3⟩ := rn_no h4
          rw [e3] at h'
          exact absurd h' (by decide)
  · rw [rdN_err h1] at h
    have : ((vaN d p q 4000).2.2 : Int) = 0 := h
    omega
theorem rdO_ok {d : List UInt8} {p : Nat} {x : UInt8} {base : Int} (hx : d[p]? = some x) (h : (rdO d p x base).e = 0) : (rdO d p x base).q = 0 ∧ p < (rdO d p x base).p ∧ (rdO d p x base).p ≤ d.length ∧ 1 ≤ szV (rdO d p x base).o := by
  have hp := (List.getElem?_eq_some_iff.1 hx).1
  by_cases h1 : 1 < x.toNat
  · rw [rdO_bad h1] at h
    exact absurd h (by show ¬ (19 : Int) = 0; decide)
  · by_cases h2 : x.toNat = 1
    · rw [rdO_cp h2] at h ⊢
      have hg := vaN_ge d (p + 1) 0 4000
      obtain ⟨e1, e2, e3, e4⟩ := rdN_ok (vaN_le d (p + 1) 0 4000 (by omega)) h
      exact ⟨e1, by omega, e3, e4⟩
    · rw [rdO_new h1 h2] at h ⊢
      obtain ⟨e1, e2, e3, e4⟩ := rdN_ok (by omega) h
      exact ⟨e1, by omega, e3, e4⟩
def rdL (d : List UInt8) (base : Int) : Nat → Nat → Int → List OV × Int
  | 0, _, left => ([], if 0 < left then 10 else 0)
  | f + 1, p, left => match d[p]? with
    | none => ([], if 0 < left then 10 else 0)
    | some x => if (rdO d p x base).e ≠ 0 then ([], (rdO d p x base).e) else if left < szV (rdO d p x base).o then ([], 3)
      else ((rdO d p x base).o :: (rdL d base f (rdO d p x base).p (left - szV (rdO d p x base).o)).1, (rdL d base f (rdO d p x base).p (left - szV (rdO d p x base).o)).2)
theorem rdL_end {d : List UInt8} {base : Int} {f p : Nat} {left : Int} (h : d.length ≤ p) : rdL d base f p left = ([], if 0 < left then 10 else 0) := by
  cases f with
  | zero => rfl
  | succ f => unfold rdL; rw [List.getElem?_eq_none h]
theorem rdL_err {d : List UInt8} {base : Int} {f p : Nat} {left : Int} {x : UInt8} (hx : d[p]? = some x) (h : (rdO d p x base).e ≠ 0) : rdL d base (f + 1) p left = ([], (rdO d p x base).e) := by
  conv => lhs; unfold rdL
  rw [hx]
  exact if_pos h
theorem rdL_long {d : List UInt8} {base : Int} {f p : Nat} {left : Int} {x : UInt8} (hx : d[p]? = some x) (h : (rdO d p x base).e = 0) (h2 : left < szV (rdO d p x base).o) : rdL d base (f + 1) p left = ([], 3) := by
  conv => lhs; unfold rdL
  rw [hx]
  show (if _ then _ else _) = _
  rw [if_neg (fun h3 => h3 h), if_pos h2]
theorem rdL_next {d : List UInt8} {base : Int} {f p : Nat} {left : Int} {x : UInt8} (hx : d[p]? = some x) (h : (rdO d p x base).e = 0) (h2 : ¬ left < szV (rdO d p x base).o) : rdL d base (f + 1) p left = ((rdO d p x base).o :: (rdL d base f (rdO d p x base).p (left - szV (rdO d p x base).o)).1, (rdL d base f (rdO d p x base).p (left - szV (rdO d p x base).o)).2) := by
  conv => lhs; unfold rdL
  rw [hx]
  show (if _ then _ else _) = _
  rw [if_neg (fun h3 => h3 h), if_neg h2]
def RDI (d : List UInt8) (base : Int) (p : Nat) (left : Int) (ops : List OV) (r : List OV × Int) : Prop := ∃ f, d.length - p ≤ f ∧ (ops ++ (rdL d base f p left).1, (rdL d base f p left).2) = r
section
variable {d : List UInt8} {base : Int} {p : Nat} {left : Int} {ops : List OV} {r : List OV × Int} {x : UInt8}
theorem RDI.start (d : List UInt8) (base : Int) (p : Nat) (left : Int) : RDI d base p left [] (rdL d base d.length p left) := ⟨d.length, by omega, rfl⟩
theorem RDI.stop (h : RDI d base p left ops r) (hp : d.length ≤ p) : r = (ops, if 0 < left then 10 else 0) := by
  obtain ⟨f, h1, h2⟩ := h
  rw [rdL_end hp, List.append_nil] at h2
  exact h2.symm
theorem RDI.err (h : RDI d base p left ops r) (hx : d[p]? = some x) (he : (rdO d p x base).e ≠ 0) : r = (ops, (rdO d p x base).e) := by
  have hp := (List.getElem?_eq_some_iff.1 hx).1
  obtain ⟨f, h1, h2⟩ := h
  obtain ⟨g, rfl⟩ : ∃ g, f = g + 1 := ⟨f - 1, by omega⟩
  rw [rdL_err hx he, List.append_nil] at h2
  exact h2.symm
theorem RDI.long (h : RDI d base p left ops r) (hx : d[p]? = some x) (he : (rdO d p x base).e = 0) (hs : left < szV (rdO d p x base).o) : r = (ops, 3) := by
  have hp := (List.getElem?_eq_some_iff.1 hx).1
  obtain ⟨f, h1, h2⟩ := h
  obtain ⟨g, rfl⟩ : ∃ g, f = g + 1 := ⟨f - 1, by omega⟩
  rw [rdL_long hx he hs, List.append_nil] at h2
  exact h2.symm
theorem RDI.next (h : RDI d base p left ops r) (hx : d[p]? = some x) (he : (rdO d p x base).e = 0) (hs : ¬ left < szV (rdO d p x base).o) : RDI d base (rdO d p x base).p (left - szV (rdO d p x base).o) (ops ++ [(rdO d p x base).o]) r := by
  have hp := (List.getElem?_eq_some_iff.1 hx).1
  have ho := rdO_ok hx he
  obtain ⟨f, h1, h2⟩ := h
  obtain ⟨g, rfl⟩ : ∃ g, f = g + 1 := ⟨f - 1, by omega⟩
  rw [rdL_next hx he hs] at h2
  exact ⟨g, by omega, by rw [← h2, List.append_assoc]; rfl⟩
end
def rdR (d : List UInt8) : List OV × Int := rdL d ((vaN d 0 0 4000).1 : Int) d.length (vaN d (vaN d 0 0 4000).2.1 (vaN d 0 0 4000).2.2 4000).2.1 ((vaN d (vaN d 0 0 4000).2.1 (vaN d 0 0 4000).2.2 4000).1 : Int)
def readV (d : List UInt8) : Int × Int × List OV × Int :=
  if (vaN d (vaN d 0 0 4000).2.1 (vaN d 0 0 4000).2.2 4000).2.2 ≠ 0 then (0, 0, [], (vaN d (vaN d 0 0 4000).2.1 (vaN d 0 0 4000).2.2 4000).2.2)
  else if (rdR d).2 ≠ 0 then (0, 0, [], (rdR d).2) else ((vaN d 0 0 4000).1, (vaN d (vaN d 0 0 4000).2.1 (vaN d 0 0 4000).2.2 4000).1, (rdR d).1, 0)
theorem read_e1 {d : List UInt8} (h : (vaN d (vaN d 0 0 4000).2.1 (vaN d 0 0 4000).2.2 4000).2.2 ≠ 0) : readV d = (0, 0, [], ((vaN d (vaN d 0 0 4000).2.1 (vaN d 0 0 4000).2.2 4000).2.2 : Int)) := by unfold readV; rw [if_pos h]
theorem read_e2 {d : List UInt8} (h : (vaN d (vaN d 0 0 4000).2.1 (vaN d 0 0 4000).2.2 4000).2.2 = 0) {ops : List OV} {e : Int} (h2 : rdR d = (ops, e)) (he : e ≠ 0) : readV d = (0, 0, [], e) := by unfold readV; rw [if_neg (by omega), h2, if_pos he]
theorem read_ok {d : List UInt8} (h : (vaN d (vaN d 0 0 4000).2.1 (vaN d 0 0 4000).2.2 4000).2.2 = 0) {ops : List OV} (h2 : rdR d = (ops, 0)) : readV d = (((vaN d 0 0 4000).1 : Int), ((vaN d (vaN d 0 0 4000).2.1 (vaN d 0 0 4000).2.2 4000).1 : Int), ops, 0) := by unfold readV; rw [if_neg (by omega), h2, if_neg (fun h3 => h3 rfl)]
end Go.Proofs.YtgaklngnfecdaaaGreat.Del
namespace Go.Proofs.YtgaklngnfecdaaaGreat.Del
open Go.RowKit Zk Zx Oct
theorem xbig1 (g : Nat) (A : Option Addr) (n c : Nat) (l : List UInt8) (p : Nat) (x : UInt8) (w0 : World) (hw : (xr g A n c p 0).holds w0) (hb : Rs w0 1 A n c (bL l)) (hx : l[p]? = some x) (hn62 : n ≤ 70368744177664) (hbg : ∀ ad, 0 < n → A = some ad → ad.block ≠ g) :
    Calls Tryz.prog 100 #[.pointer (some ⟨g, 0, none⟩), .int .i64 1] w0 fun e w' => ∃ u, e = .returned u ∧ u = .int .u64 (x.toNat : Int) ∧ Turned w0 w' (xr g A n c p 0) (xr g A n c (p + 1) 0) := by
  have hp := (List.getElem?_eq_some_iff.1 hx).1
  refine (xbig g A n c l p 0 1 w0 hw hb (by omega) hn62 hbg (by omega)).mono fun e w' ⟨u, h1, h2, h3⟩ => ⟨u, h1, ?_, ?_⟩
  · obtain ⟨y, hy, htk, _⟩ := tk_one (show 1 ≤ l.length - p by omega)
    rw [hx] at hy
    obtain rfl := Option.some.inj hy
    rw [h2, rwL, if_pos rfl, htk]
    simp [be]
  · rw [show rwP l p 0 1 = p + 1 by rw [rwP, if_pos rfl, tkP, if_pos (by omega)], show rwE l p 0 1 = 0 by rw [rwE, if_pos rfl, tkE_ok (by omega)]] at h3
    exact h3
end Go.Proofs.YtgaklngnfecdaaaGreat.Del
namespace Go.Proofs.YtgaklngnfecdaaaGreat.Del
open Go.RowKit Zk Zx Oct
theorem vaN_back {d rest : List UInt8} {p v M : Nat} (h : d.drop p = vr v ++ rest) (hv : v ≤ M) (h64 : v ≤ 18446744073709551615) : vaN d p 0 M = (v, p + (vr v).length, 0) := by
  unfold vaN
  rw [if_neg (by omega), h, numF_of_vr rest v h64, if_neg (by show ¬ (0 : Nat) ≠ 0; omega), if_neg (by show ¬ M < v; omega)]
theorem drop_hd {d : List UInt8} {p : Nat} {x : UInt8} (hx : d[p]? = some x) : d.drop p = x :: d.drop (p + 1) := by
  obtain ⟨h1, h2⟩ := List.getElem?_eq_some_iff.1 hx
  rw [← h2, List.getElem_cons_drop]
theorem rdO_back {d rest : List UInt8} {p : Nat} {o : OV} {base : Int} (hr : rtV base o = true) (hs : szV o ≤ 4000) (hb : base ≤ 4000) (h : d.drop p = encO o ++ rest) : ∃ x, d[p]? = some x ∧ rdO d p x base = ⟨o, p + (encO o).length, 0, 0⟩ := by
  cases hc : o.cp with
  | true =>
    obtain ⟨h1, h2, h3, h4, h5⟩ := rtV_cp hr hc
    obtain ⟨cp, fr, n, l⟩ := o
    have hc' : cp = true := hc
    have h5' : l = [] := h5
    subst hc' h5'
    have h1' : 1 ≤ n := h1
    have h3' : 0 ≤ fr := h3
    have h4' : fr ≤ base - n := h4
    have he : encO ⟨true, fr, n, []⟩ = 1 :: (vr fr.toNat ++ vr n.toNat) := by unfold encO; rw [if_pos rfl]
    rw [he] at h ⊢
    have hx : d[p]? = some 1 := by
      have := congrArg (fun z => z[0]?) h
      simpa using this
    refine ⟨1, hx, ?_⟩
    have hd : d.drop (p + 1) = vr fr.toNat ++ (vr n.toNat ++ rest) := by
      have h9 := drop_hd hx
      rw [h] at h9
      have h8 := (List.cons.inj h9).2
      rw [← h8, List.append_eq, List.append_assoc]
    have v1 := vaN_back (M := 4000) hd (by omega) (by omega)
    have hd2 : d.drop (p + 1 + (vr fr.toNat).length) = vr n.toNat ++ rest := by
      rw [← List.drop_drop, hd, List.drop_left]
    have v2 := vaN_back (M := 4000) hd2 (by omega) (by omega)
    rw [rdO_cp rfl, v1]
    show rdN d (p + 1 + (vr fr.toNat).length) 0 base ((fr.toNat : Nat) : Int) true = _
    rw [rdN_cp (by rw [v2]) (by rw [v2]; show ¬ n.toNat = 0; omega) (by rw [v2]; show ¬ base - (n.toNat : Int) < (fr.toNat : Int); omega), v2]
    have e1 : ((fr.toNat : Nat) : Int) = fr := by omega
    have e2 : ((n.toNat : Nat) : Int) = n := by omega
    show RO.mk ⟨true, ((fr.toNat : Nat) : Int), ((n.toNat : Nat) : Int), []⟩ (p + 1 + (vr fr.toNat).length + (vr n.toNat).length) 0 0 = _
    rw [e1, e2]
    congr 1
    simp
    omega
  | false =>
    obtain ⟨h1, h2, h3⟩ := rtV_new hr hc
    obtain ⟨cp, fr, n, l⟩ := o
    have hc' : cp = false := hc
    have h2' : fr = 0 := h2
    have h3' : n = 0 := h3
    subst hc' h2' h3'
    have h1' : 1 ≤ l.length := h1
    have hs' : (l.length : Int) ≤ 4000 := hs
    have he : encO ⟨false, 0, 0, l⟩ = 0 :: (vr l.length ++ l) := by unfold encO; rw [if_neg Bool.false_ne_true]
    rw [he] at h ⊢
    have hx : d[p]? = some 0 := by
      have := congrArg (fun z => z[0]?) h
      simpa using this
    refine ⟨0, hx, ?_⟩
    have hd : d.drop (p + 1) = vr l.length ++ (l ++ rest) := by
      have h9 := drop_hd hx
      rw [h] at h9
      have h8 := (List.cons.inj h9).2
      rw [← h8, List.append_eq, List.append_assoc]
    have v1 := vaN_back (M := 4000) hd (by omega) (by omega)
    have hd2 : d.drop (p + 1 + (vr l.length).length) = l ++ rest := by
      rw [← List.drop_drop, hd, List.drop_left]
    have hlen : l.length ≤ d.length - (p + 1 + (vr l.length).length) := by
      have := congrArg List.length hd2
      rw [List.length_drop, List.length_append] at this
      omega
    obtain ⟨e1, e2, e3⟩ := rn_ok hlen
    rw [rdO_new (by decide) (by decide), rdN_new (by rw [v1]) (by rw [v1]; show ¬ l.length = 0; omega), v1]
    show RO.mk ⟨false, 0, 0, rnL d (p + 1 + (vr l.length).length) 0 (l.length : Int)⟩ (rnP d (p + 1 + (vr l.length).length) 0 (l.length : Int)) (rnE d (p + 1 + (vr l.length).length) 0 (l.length : Int)) (rnE d (p + 1 + (vr l.length).length) 0 (l.length : Int) : Int) = _
    rw [e1, e2, e3, hd2, List.take_left]
    congr 1
    simp
    omega
theorem enc_pos (o : OV) : 1 ≤ (encO o).length := by
  unfold encO
  split <;> simp
theorem rdL_back {d : List UInt8} {base : Int} (hb : base ≤ 4000) : ∀ (l : List OV) (f p : Nat) (left : Int), chkL base left l = true → left ≤ 4000 → d.drop p = l.flatMap encO → d.length - p ≤ f → rdL d base f p left = (l, 0)
  | [], f, p, left, hc, hl, hd, hf => by
    unfold chkL at hc
    have h0 := of_decide_eq_true hc
    rw [rdL_end (List.drop_eq_nil_iff.1 hd), if_neg (by omega)]
  | o :: r, f, p, left, hc, hl, hd, hf => by
    unfold chkL at hc
    rw [Bool.and_eq_true, Bool.and_eq_true] at hc
    have hs := of_decide_eq_true hc.1.2
    have hz := sz_nonneg hc.1.1
    rw [List.flatMap_cons] at hd
    obtain ⟨x, hx, he⟩ := rdO_back hc.1.1 (by omega) hb hd
    have hp := (List.getElem?_eq_some_iff.1 hx).1
    obtain ⟨g, rfl⟩ : ∃ g, f = g + 1 := ⟨f - 1, by omega⟩
    have hpos := enc_pos o
    rw [rdL_next hx (by rw [he]) (by rw [he]; show ¬ left < szV o; omega), he]
    have ih := rdL_back hb r g (p + (encO o).length) (left - szV o) hc.2 (by omega) (by rw [← List.drop_drop, hd, List.drop_left]) (by omega)
    show (o :: (rdL d base g (p + (encO o).length) (left - szV o)).1, (rdL d base g (p + (encO o).length) (left - szV o)).2) = _
    rw [ih]
theorem put_read {b t : Int} {l : List OV} (h : errV b t l = 0) : readV (encV b t l) = (b, t, l, 0) := by
  obtain ⟨hrg, hch⟩ := errV_zero h
  have e0 : (encV b t l).drop 0 = vr b.toNat ++ (vr t.toNat ++ l.flatMap encO) := by rw [List.drop_zero]; unfold encV; rw [List.append_assoc]
  have v1 := vaN_back (M := 4000) e0 (by omega) (by omega)
  rw [Nat.zero_add] at v1
  have e1 : (encV b t l).drop (vr b.toNat).length = vr t.toNat ++ l.flatMap encO := by
    have : (encV b t l).drop (0 + (vr b.toNat).length) = vr t.toNat ++ l.flatMap encO := by rw [← List.drop_drop, e0, List.drop_left]
    rwa [Nat.zero_add] at this
  have v2 := vaN_back (M := 4000) e1 (by omega) (by omega)
  have e2 : (encV b t l).drop ((vr b.toNat).length + (vr t.toNat).length) = l.flatMap encO := by rw [← List.drop_drop, e1, List.drop_left]
  have hb : ((b.toNat : Nat) : Int) = b := by omega
  have ht : ((t.toNat : Nat) : Int) = t := by omega
  have hr : rdR (encV b t l) = (l, 0) := by
    unfold rdR
    rw [v1]
    show rdL (encV b t l) ((b.toNat : Nat) : Int) _ (vaN (encV b t l) (vr b.toNat).length 0 4000).2.1 ((vaN (encV b t l) (vr b.toNat).length 0 4000).1 : Int) = _
    rw [v2]
    show rdL (encV b t l) ((b.toNat : Nat) : Int) _ ((vr b.toNat).length + (vr t.toNat).length) ((t.toNat : Nat) : Int) = _
    rw [hb, ht]
    exact rdL_back (by omega) l _ _ t hch (by omega) e2 (by omega)
  have hq : (vaN (encV b t l) (vaN (encV b t l) 0 0 4000).2.1 (vaN (encV b t l) 0 0 4000).2.2 4000).2.2 = 0 := by
    rw [v1]
    show (vaN (encV b t l) (vr b.toNat).length 0 4000).2.2 = 0
    rw [v2]
  rw [read_ok hq hr, v1]
  show (((b.toNat : Nat) : Int), ((vaN (encV b t l) (vr b.toNat).length 0 4000).1 : Int), l, 0) = _
  rw [v2]
  show (((b.toNat : Nat) : Int), ((t.toNat : Nat) : Int), l, 0) = _
  rw [hb, ht]
end Go.Proofs.YtgaklngnfecdaaaGreat.Del
namespace Go.Proofs.YtgaklngnfecdaaaGreat.Del
open Go.RowKit Zk Zx Oct
end Go.Proofs.YtgaklngnfecdaaaGreat.Del
namespace Go.Proofs.YtgaklngnfecdaaaGreat.Del
open Go.RowKit Zk Zx Oct
end Go.Proofs.YtgaklngnfecdaaaGreat.Del
namespace Go.Proofs.YtgaklngnfecdaaaGreat.Del
open Go.RowKit Zk Zx Oct
theorem make_apl {a t : List UInt8} (ha : a.length ≤ 4000) (ht : t.length ≤ 4000) : aplR a a.length t.length (mkV a t) = (t, 0) := by
  rw [aplR_ok (mkV_err ha ht) rfl, (mkV_all a t).2]
theorem pputM {x y : List UInt8} (hx : x.length ≤ 400) (hy : y.length ≤ 400) (A : Option Addr) (c : Nat) (l : List OP) (n m : Nat) (w0 : World) (hl : Rs w0 4 A l.length c (l.flatMap opf)) (hok : OkO w0 l) (h1 : l.map OP.v = mkV x y) (hn : n = x.length) (hm : m = y.length) :
    Calls Tryz.prog 122 #[.agg (scA (n : Int) (m : Int) A l.length c)] w0 fun e w' => ∃ u, e = .returned u ∧ Like w0 w' ∧ ∃ A' c', u = .tuple #[.slice A' (encV x.length y.length (mkV x y)).length c', .int .i64 0] ∧ w'.ownsRow w0.heap.size 5 1 (.slice A' (encV x.length y.length (mkV x y)).length c') (encV x.length y.length (mkV x y)).length (bL (encV x.length y.length (mkV x y))) := by
  subst hn hm
  have e1 : l.length ≤ 4000 := by have := mkV_cnt (a := x) (t := y); rw [← h1, List.length_map] at this; omega
  have h := pput A l.length c l (x.length : Int) (y.length : Int) w0 hl hok e1
  rw [h1, put_ok (mkV_err (by omega) (by omega))] at h
  exact h
end Go.Proofs.YtgaklngnfecdaaaGreat.Del
namespace Go.Proofs.YtgaklngnfecdaaaGreat.Zx
open Go.RowKit Zk
def upB (a : List UInt8) (v : Value) (D : List (List UInt8 × Value)) : List (List UInt8 × Value) := match posB a D 0 with
  | some (i, _) => D.set i (a, v)
  | none => D ++ [(a, v)]
section
variable {P : Program} {N : Nat} {Q : Post} {env : Env} {w w0 : World} {M : Nat → Prop} {rs : List Res} {K : Env → World → Prop} {d : Tmp} {ty : TypeId} {pos : String} {after : Array Edge} {g : Option (Nat × Bool)} {dst : Option Tmp}
theorem o_mapUpB {t k e u : TypeId} {n b : Nat} {D : List (List UInt8 × Value)} {m x v : Operand} {a : List UInt8} {new : Value} (S : St w0 M rs w) (j : Nat) (hj : rs[j]? = some (mapB n b D)) (ht : P.underlying t = some (.map k e)) (hk : P.underlying k = some (.array n u)) (hu : P.underlying u = some (.int .u8)) (hs : (P.info? u).map (·.size) = some 1)
    (hm : ev env m = some (.map (some b))) (hx : ev env x = some (.agg (bA a))) (hv : ev env v = some new) (ha : a.length = n)
    (h : ∀ w', St w0 M (rs.set j (mapB n b (upB a new D))) w' → K env w') :
    O P N Q ⟨none, .mapUpdate t m x v, ty, pos, after, g⟩ env w K := fun c hc => by
  have hw := S.get j hj
  have hf := run_findB (P := P) hk hu hs a ha w D hw.2
  have hbl : b < w.heap.size := (Array.getElem?_eq_some_iff.1 hw.1).1
  unfold Oper.wp execOp
  simp only [hc.eval hm, hc.eval hx, hc.eval hv, Instr.mapUpdate, Sem.run_bind, run_underlying ht, Result.andThen_ok, getM hw.1, Sem.run_pure, run_checkB hk hu hs a ha w, hf]
  have fin : ∀ D', upB a new D = D' → (∀ p ∈ D', p.1.length = n) → St w0 M (rs.set j (mapB n b (upB a new D))) { w with heap := w.heap.setIfInBounds b (.map (entB D').toArray D'.length) } := fun D' e hD' => by
    rw [e]
    exact S.upd j hj rfl rfl rfl (by simp) (fun i hi hn => set_map_other w b _ i hn) ⟨by
      show (w.heap.setIfInBounds b _)[b]? = _
      rw [Array.getElem?_setIfInBounds_self_of_lt hbl], hD'⟩ fun i hi => .inl hi
  cases hp : posB a D 0 with
  | some p =>
    obtain ⟨i, v0⟩ := p
    obtain ⟨_, hi⟩ := posB_some hp
    rw [Nat.sub_zero] at hi
    have hil := (List.getElem?_eq_some_iff.1 hi).1
    have hg : (entB D).toArray[i]? = some ⟨.agg (bA a), v0, i⟩ := by rw [List.getElem?_toArray, entB_get, hi]; rfl
    have hnew : ((entB D).toArray.modify i fun e => { e with key := Value.agg (bA a), val := new }) = (entB (D.set i (a, new))).toArray := by
      apply Array.ext_getElem?
      intro q
      rw [Array.getElem?_modify, List.getElem?_toArray, List.getElem?_toArray, entB_get, entB_get]
      by_cases e : i = q
      · subst e
        rw [if_pos rfl, List.getElem?_set_self hil, hi]
        rfl
      · rw [if_neg e, List.getElem?_set_ne e]
    simp only [hg, Option.map_some, Option.getD_some, Instr.keyThatStays, same_bits, if_true, Sem.run_pure, Sem.run_bind, Result.andThen_ok, hnew, setM _ hw.1]
    have h9 := fin (D.set i (a, new)) (by unfold upB; rw [hp]) (fun p hp => by
      rcases List.mem_or_eq_of_mem_set hp with q | q
      · exact hw.2 p q
      · subst q; exact ha)
    rw [List.length_set] at h9
    exact ⟨_, hc, h _ h9⟩
  | none =>
    have hnew : (entB D).toArray.push { key := Value.agg (bA a), val := new, born := D.length } = (entB (D ++ [(a, new)])).toArray := by
      unfold entB
      rw [List.zipIdx_append, List.map_append]
      simp
    simp only [Sem.run_pure, Sem.run_bind, Result.andThen_ok, hnew, setM _ hw.1]
    have h9 := fin (D ++ [(a, new)]) (by unfold upB; rw [hp]) (fun p hp => by
      rcases List.mem_append.1 hp with q | q
      · exact hw.2 p q
      · obtain rfl := List.mem_singleton.1 q
        exact ha)
    rw [List.length_append] at h9
    exact ⟨_, hc, h _ h9⟩
theorem y_lenB {x : Operand} {t k e : TypeId} {n b : Nat} {D : List (List UInt8 × Value)} (hw : (mapB n b D).holds w) (ht : P.underlying t = some (.map k e)) (hx : ev env x = some (.map (some b))) :
    Y P (Like w) env ⟨dst, .call { callee := .builtin .len, args := #[x], argTypes := #[t] }, ty, pos, after, g⟩ (.int .i64 (D.length : Int)) := fun N a w' ha hl => by
  have hh : w'.heap[b]? = some (.map (entB D).toArray D.length) := by
    have hb : b < w.heap.size := (Array.getElem?_eq_some_iff.1 hw.1).1
    rw [hl.block b hb]; exact hw.1
  have h1 : (Builtin.len_ #[t] ty #[.map (some b)]).run P w' = .ok (.int .i64 (D.length : Int)) w' := by
    simp [Builtin.len_, run_underlying ht, getM hh, goInt, entB_len]
  simp only [execOp, resolve, invoke, builtin, Sem.run_bind, Sem.run_pure, Result.andThen_ok, List.map_toArray, List.map_cons, List.map_nil, ha.eval hx, h1]
theorem upB_new {a : List UInt8} {v : Value} {D : List (List UInt8 × Value)} (h : ∀ p ∈ D, p.1 ≠ a) : upB a v D = D ++ [(a, v)] := by
  unfold upB
  cases hp : posB a D 0 with
  | none => rfl
  | some p =>
    obtain ⟨i, v0⟩ := p
    obtain ⟨_, hi⟩ := posB_some hp
    exact absurd rfl (h _ (List.mem_of_getElem? hi))
theorem upB_old {a : List UInt8} {v : Value} {D : List (List UInt8 × Value)} (h : ∃ p ∈ D, p.1 = a) : (upB a v D).length = D.length := by
  unfold upB
  cases hp : posB a D 0 with
  | none =>
    obtain ⟨p, h1, h2⟩ := h
    exact absurd h2 (posB_none hp p h1)
  | some p => simp
theorem upB_mem {a : List UInt8} {v : Value} {D : List (List UInt8 × Value)} (x : List UInt8) : x ∈ (upB a v D).map (·.1) ↔ x = a ∨ x ∈ D.map (·.1) := by
  unfold upB
  cases hp : posB a D 0 with
  | none => simp [or_comm]
  | some p =>
    obtain ⟨i, v0⟩ := p
    obtain ⟨_, hi⟩ := posB_some hp
    rw [Nat.sub_zero] at hi
    obtain ⟨hil, he⟩ := List.getElem?_eq_some_iff.1 hi
    have e : (D.set i (a, v)).map (·.1) = D.map (·.1) := by
      rw [List.map_set]
      apply List.ext_getElem?
      intro q
      rw [List.getElem?_set]
      split
      · rename_i hq
        subst hq
        rw [if_pos (by simpa using hil), List.getElem?_map, hi]
        rfl
      · rfl
    show x ∈ (D.set i (a, v)).map (·.1) ↔ _
    rw [e]
    refine ⟨.inr, fun h => h.elim (fun q => ?_) id⟩
    subst q
    exact List.mem_map.2 ⟨_, List.mem_of_getElem? hi, rfl⟩
def setB (l : List (List UInt8)) : List (List UInt8 × Value) := l.foldl (fun D a => upB a (.bool true) D) []
theorem setB_snoc (l : List (List UInt8)) (a : List UInt8) : setB (l ++ [a]) = upB a (.bool true) (setB l) := by simp [setB, List.foldl_append]
theorem setB_all (l : List (List UInt8)) : (∀ x, x ∈ (setB l).map (·.1) ↔ x ∈ l) ∧ (setB l).length ≤ l.length ∧ ((setB l).length = l.length ↔ l.Nodup) := by
  induction hn : l.length generalizing l with
  | zero =>
    have : l = [] := List.length_eq_zero_iff.1 hn
    subst this
    exact ⟨fun x => by simp [setB], by simp [setB], by simp [setB]⟩
  | succ n ih =>
    obtain ⟨l, a, rfl⟩ : ∃ l' a, l = l' ++ [a] := ⟨l.dropLast, l.getLast (fun e => by simp [e] at hn), (List.dropLast_concat_getLast _).symm⟩
    have hl : l.length = n := by simpa using hn
    obtain ⟨h1, h2, h3⟩ := ih l hl
    rw [setB_snoc]
    refine ⟨fun x => by rw [upB_mem, h1]; simp [or_comm], ?_, ?_⟩
    · by_cases hm : a ∈ l
      · obtain ⟨p, hp, e⟩ := List.mem_map.1 ((h1 a).2 hm)
        rw [upB_old ⟨p, hp, e⟩]; omega
      · rw [upB_new (fun p hp e => hm ((h1 a).1 (List.mem_map.2 ⟨p, hp, e⟩)))]; simp; omega
    · by_cases hm : a ∈ l
      · obtain ⟨p, hp, e⟩ := List.mem_map.1 ((h1 a).2 hm)
        rw [upB_old ⟨p, hp, e⟩]
        refine ⟨fun q => by omega, fun q => ?_⟩
        rw [List.nodup_append] at q
        exact absurd rfl (q.2.2 a hm a (by simp))
      · rw [upB_new (fun p hp e => hm ((h1 a).1 (List.mem_map.2 ⟨p, hp, e⟩))), List.nodup_append]
        simp only [List.length_append, List.length_singleton, Nat.add_right_cancel_iff]
        rw [h3]
        refine ⟨fun q => ⟨q, by simp, fun x hx y hy e => ?_⟩, fun q => q.1⟩
        obtain rfl := List.mem_singleton.1 hy
        exact hm (e ▸ hx)
end
end Go.Proofs.YtgaklngnfecdaaaGreat.Zx
namespace Go.Proofs.YtgaklngnfecdaaaGreat.Pak
open Go.RowKit Zk Zx
open Sha (N)
open Go.Proofs.YtgaklngnfecdaaaGreat.Obj (objE objB nameI nameI_len nameI_ok nameI_no zB)
open Del (mkV encV)
structure It where
  kind : Int
  p : Part
abbrev IV := Int × List UInt8
def It.v (x : It) : IV := (x.kind, x.p.l)
def itf (x : It) : List Value := [.int .i64 x.kind, pv x.p]
theorem itf_len (x : It) : (itf x).length = 2 := rfl
theorem itf_one (x : It) : ∀ u ∈ itf x, u.oneCell' = true := fun u hu => by
  simp [itf, pv] at hu
  rcases hu with rfl | rfl <;> rfl
def OkI (w : World) (l : List It) : Prop := ∀ x ∈ l, x.p.ok w
theorem OkI.like {w w' : World} {l : List It} (h : OkI w l) (lk : Like w w') : OkI w' l := fun x hx => Rs.like (h x hx) lk
theorem OkI.at {w : World} {l : List It} (h : OkI w l) {k : Nat} {x : It} (hx : l[k]? = some x) : x.p.ok w := h x (List.mem_of_getElem? hx)
theorem its_len {w : World} {A : Option Addr} {n c : Nat} {l : List It} (h : Rs w 2 A n c (l.flatMap itf)) : n = l.length := by
  have h2 : (l.flatMap itf).length = n * 2 := h.len
  rw [flat_len itf 2 itf_len] at h2
  omega
def nmE : List IV → Int
  | [] => 0
  | x :: r => if objE x.1 x.2 ≠ 0 then objE x.1 x.2 else nmE r
def idB (x : IV) : List Value := bL (nameI x.1 x.2)
theorem idB_len (x : IV) : (idB x).length = 32 := by unfold idB; rw [length_bL, nameI_len]
def idsV (l : List IV) : List (List UInt8) := l.map fun x => nameI x.1 x.2
def nameE (l : List IV) : Int := if nmE l ≠ 0 then nmE l else if (idsV l).Nodup then 0 else 17
theorem nmE_at : ∀ {l : List IV} {k : Nat} {x : IV}, (∀ y ∈ l.take k, objE y.1 y.2 = 0) → l[k]? = some x → objE x.1 x.2 ≠ 0 → nmE l = objE x.1 x.2
  | y :: r, 0, x, _, hx, he => by
    simp at hx
    subst hx
    unfold nmE
    rw [if_pos he]
  | y :: r, k + 1, x, h, hx, he => by
    unfold nmE
    rw [if_neg (fun q => q (h y (by simp)))]
    exact nmE_at (k := k) (fun z hz => h z (by simp [hz])) (by simpa using hx) he
theorem nmE_zero : ∀ {l : List IV}, (∀ x ∈ l, objE x.1 x.2 = 0) → nmE l = 0
  | [], _ => rfl
  | y :: r, h => by
    unfold nmE
    rw [if_neg (fun q => q (h y (by simp)))]
    exact nmE_zero fun z hz => h z (by simp [hz])
theorem nmE_all : ∀ {l : List IV}, nmE l = 0 → ∀ x ∈ l, objE x.1 x.2 = 0
  | y :: r, h, x, hx => by
    unfold nmE at h
    by_cases he : objE y.1 y.2 = 0
    · rw [if_neg (fun q => q he)] at h
      rcases List.mem_cons.1 hx with rfl | hx
      · exact he
      · exact nmE_all h x hx
    · rw [if_pos he] at h
      exact absurd h he
theorem nameE_e {l : List IV} (h : nmE l ≠ 0) : nameE l = nmE l := by unfold nameE; rw [if_pos h]
theorem nameE_17 {l : List IV} (h : nmE l = 0) (h2 : ¬ (idsV l).Nodup) : nameE l = 17 := by unfold nameE; rw [if_neg (fun q => q h), if_neg h2]
theorem nameE_0 {l : List IV} (h : nmE l = 0) (h2 : (idsV l).Nodup) : nameE l = 0 := by unfold nameE; rw [if_neg (fun q => q h), if_pos h2]
theorem nameE_ok {l : List IV} (h : nameE l = 0) : (∀ x ∈ l, objE x.1 x.2 = 0) ∧ (idsV l).Nodup := by
  unfold nameE at h
  by_cases h1 : nmE l = 0
  · rw [if_neg (fun q => q h1)] at h
    by_cases h2 : (idsV l).Nodup
    · exact ⟨nmE_all h1, h2⟩
    · rw [if_neg h2] at h; cases h
  · rw [if_pos h1] at h; exact absurd h h1
structure Ob where
  kind : Int
  l : List UInt8
  dep : Nat
  at_ : Nat
  sum : UInt32
def Ob.id (o : Ob) : List UInt8 := nameI o.kind o.l
theorem Ob.id_len (o : Ob) : o.id.length = 32 := nameI_len _ _
def plO (o : Ob) : List Value := bL o.id ++ [.int .i64 (o.at_ : Int), .int .u32 (N o.sum)]
theorem plO_len (o : Ob) : (plO o).length = 34 := by simp [plO, length_bL, Ob.id_len]
theorem plO_one (o : Ob) : ∀ u ∈ plO o, u.oneCell' = true := fun u hu => by
  rcases List.mem_append.1 hu with h | h
  · exact bL_one _ u h
  · simp at h
    rcases h with rfl | rfl <;> rfl
def candF (os : List Ob) (kind chain : Int) : Nat → Nat → List Nat
  | 0, _ => []
  | j + 1, seen => if 4 ≤ seen then [] else match os[j]? with
    | none => []
    | some o => if o.kind ≠ kind then candF os kind chain j seen else (if (o.dep : Int) < chain then [j] else []) ++ candF os kind chain j (seen + 1)
section
variable {os : List Ob} {kind chain : Int} {j seen : Nat} {o : Ob}
theorem cand_full (h : 4 ≤ seen) : candF os kind chain j seen = [] := by
  cases j with
  | zero => rfl
  | succ j => unfold candF; rw [if_pos h]
theorem cand_skip (h : seen < 4) (ho : os[j]? = some o) (hk : o.kind ≠ kind) : candF os kind chain (j + 1) seen = candF os kind chain j seen := by
  conv => lhs; unfold candF
  rw [if_neg (by omega), ho]
  exact if_pos hk
theorem cand_yes (h : seen < 4) (ho : os[j]? = some o) (hk : o.kind = kind) (hd : (o.dep : Int) < chain) : candF os kind chain (j + 1) seen = j :: candF os kind chain j (seen + 1) := by
  conv => lhs; unfold candF
  rw [if_neg (by omega), ho]
  show (if o.kind ≠ kind then _ else _) = _
  rw [if_neg (fun q => q hk), if_pos hd]
  rfl
theorem cand_no (h : seen < 4) (ho : os[j]? = some o) (hk : o.kind = kind) (hd : ¬ (o.dep : Int) < chain) : candF os kind chain (j + 1) seen = candF os kind chain j (seen + 1) := by
  conv => lhs; unfold candF
  rw [if_neg (by omega), ho]
  show (if o.kind ≠ kind then _ else _) = _
  rw [if_neg (fun q => q hk), if_neg hd]
  rfl
theorem cand_lt : ∀ (j seen : Nat), ∀ k ∈ candF os kind chain j seen, k < j ∧ ∃ o, os[k]? = some o ∧ o.kind = kind ∧ (o.dep : Int) < chain
  | 0, _, k, hk => by cases hk
  | j + 1, seen, k, hk => by
    unfold candF at hk
    split at hk
    · cases hk
    · cases ho : os[j]? with
      | none => rw [ho] at hk; cases hk
      | some o =>
        rw [ho] at hk
        dsimp only at hk
        by_cases hq : o.kind ≠ kind
        · rw [if_pos hq] at hk
          have := cand_lt j seen k hk
          exact ⟨by omega, this.2⟩
        · rw [if_neg hq] at hk
          rcases List.mem_append.1 hk with hk | hk
          · by_cases hd : (o.dep : Int) < chain
            · rw [if_pos hd] at hk
              obtain rfl := List.mem_singleton.1 hk
              exact ⟨by omega, o, ho, Classical.not_not.1 hq, hd⟩
            · rw [if_neg hd] at hk; cases hk
          · have := cand_lt j (seen + 1) k hk
            exact ⟨by omega, this.2⟩
end
def scB (a x : List UInt8) : List UInt8 := encV (a.length : Int) (x.length : Int) (mkV a x)
def stepS (os : List Ob) (x : List UInt8) (r : Int × List UInt8) (k : Nat) : Int × List UInt8 := match os[k]? with
  | none => r
  | some o => if (scB o.l x).length < r.2.length then ((k : Int), scB o.l x) else r
def shF (os : List Ob) (x : List UInt8) (ks : List Nat) (r : Int × List UInt8) : Int × List UInt8 := ks.foldl (stepS os x) r
def toldV (os : List Ob) (chain kind : Int) (x : List UInt8) : Int × List UInt8 := shF os x (candF os kind chain os.length 0) (-1, x)
theorem step_yes {os : List Ob} {x : List UInt8} {r : Int × List UInt8} {k : Nat} {o : Ob} (ho : os[k]? = some o) (h : (scB o.l x).length < r.2.length) : stepS os x r k = ((k : Int), scB o.l x) := by
  unfold stepS; rw [ho]; exact if_pos h
theorem step_no {os : List Ob} {x : List UInt8} {r : Int × List UInt8} {k : Nat} {o : Ob} (ho : os[k]? = some o) (h : ¬ (scB o.l x).length < r.2.length) : stepS os x r k = r := by
  unfold stepS; rw [ho]; exact if_neg h
def ToldOk (os : List Ob) (chain kind : Int) (x : List UInt8) (r : Int × List UInt8) : Prop :=
  (r.1 = -1 ∧ r.2 = x) ∨ ∃ k o, r.1 = ((k : Nat) : Int) ∧ os[k]? = some o ∧ o.kind = kind ∧ (o.dep : Int) < chain ∧ r.2 = scB o.l x ∧ r.2.length < x.length
theorem shF_ok {os : List Ob} {chain kind : Int} {x : List UInt8} : ∀ (ks : List Nat) (r : Int × List UInt8), (∀ k ∈ ks, ∃ o, os[k]? = some o ∧ o.kind = kind ∧ (o.dep : Int) < chain) → r.2.length ≤ x.length → ToldOk os chain kind x r → ToldOk os chain kind x (shF os x ks r) ∧ (shF os x ks r).2.length ≤ x.length
  | [], r, _, hl, h => ⟨h, hl⟩
  | k :: ks, r, hk, hl, h => by
    obtain ⟨o, ho, h1, h2⟩ := hk k (by simp)
    show ToldOk os chain kind x (shF os x ks (stepS os x r k)) ∧ (shF os x ks (stepS os x r k)).2.length ≤ x.length
    by_cases hs : (scB o.l x).length < r.2.length
    · rw [step_yes ho hs]
      exact shF_ok ks _ (fun q hq => hk q (by simp [hq])) (by show (scB o.l x).length ≤ _; omega) (.inr ⟨k, o, rfl, ho, h1, h2, rfl, by show (scB o.l x).length < _; omega⟩)
    · rw [step_no ho hs]
      exact shF_ok ks r (fun q hq => hk q (by simp [hq])) hl h
theorem told_ok (os : List Ob) (chain kind : Int) (x : List UInt8) : ToldOk os chain kind x (toldV os chain kind x) ∧ (toldV os chain kind x).2.length ≤ x.length :=
  shF_ok _ _ (fun k hk => (cand_lt _ _ k hk).2) (Nat.le_refl _) (.inl ⟨rfl, rfl⟩)
structure Pk where
  bs : List UInt8
  os : List Ob
def entB (k : UInt8) (bk : List UInt8) (load : List UInt8) : List UInt8 := [k] ++ Oct.vr load.length ++ bk ++ Oct.tl (crcL load).toNat 4 ++ load
def ofAt (os : List Ob) (k : Int) : Nat := (os[k.toNat]?.elim 0 Ob.at_)
def ofDep (os : List Ob) (k : Int) : Nat := (os[k.toNat]?.elim 0 Ob.dep)
def layO (s : Pk) (v : IV) (r : Int × List UInt8) : Pk :=
  if r.1 < 0 then ⟨s.bs ++ entB (UInt8.ofNat v.1.toNat) [] r.2, s.os ++ [⟨v.1, v.2, 0, s.bs.length, crcL r.2⟩]⟩
  else ⟨s.bs ++ entB 5 (Oct.vr (s.bs.length - ofAt s.os r.1)) r.2, s.os ++ [⟨v.1, v.2, ofDep s.os r.1 + 1, s.bs.length, crcL r.2⟩]⟩
def addV (chain : Int) (s : Pk) (v : IV) : Pk := layO s v (toldV s.os chain v.1 v.2)
def frontB (n : Nat) : List UInt8 := [80, 65, 67, 75] ++ Oct.tl 1 4 ++ Oct.tl n 4
theorem frontB_len (n : Nat) : (frontB n).length = 12 := by simp [frontB, Oct.length_tl]
def packN (chain : Int) (n : Nat) (l : List IV) : Pk := l.foldl (addV chain) ⟨frontB n, []⟩
def packV (chain : Int) (l : List IV) : Pk := packN chain l.length l
def packB (chain : Int) (l : List IV) : List UInt8 := (packV chain l).bs ++ Sha.ofL (packV chain l).bs
theorem packN_succ {chain : Int} {n : Nat} {l : List IV} {k : Nat} {x : IV} (h : l[k]? = some x) : packN chain n (l.take (k + 1)) = addV chain (packN chain n (l.take k)) x := by
  unfold packN
  rw [List.take_add_one, h, List.foldl_append]
  rfl
def wrE (chain : Int) (l : List IV) : Int := if chain < 0 ∨ 8 < chain then 2 else nameE l
theorem layO_len (s : Pk) (v : IV) (r : Int × List UInt8) : (layO s v r).os.length = s.os.length + 1 := by
  unfold layO; split <;> simp
theorem layO_bs (s : Pk) (v : IV) (r : Int × List UInt8) (h : r.2.length ≤ 300) (hb : s.bs.length ≤ 20000) : (layO s v r).bs.length ≤ s.bs.length + 320 := by
  have h1 := Oct.vr_len r.2.length 1 (by omega)
  unfold layO entB
  split
  · simp [Oct.length_tl]; omega
  · have h2 := Oct.vr_len (s.bs.length - ofAt s.os r.1) 2 (by omega)
    simp [Oct.length_tl]; omega
theorem pack_inv {chain : Int} {n : Nat} {l : List IV} (hs : ∀ x ∈ l, x.2.length ≤ 300) : ∀ k, k ≤ l.length → k ≤ 24 → (packN chain n (l.take k)).os.length = k ∧ 12 ≤ (packN chain n (l.take k)).bs.length ∧ (packN chain n (l.take k)).bs.length ≤ 12 + k * 320
  | 0, _, _ => by simp [packN, frontB_len]
  | k + 1, hk, h24 => by
    obtain ⟨x, hx⟩ : ∃ x, l[k]? = some x := ⟨_, List.getElem?_eq_getElem (by omega)⟩
    obtain ⟨h1, h2, h3⟩ := pack_inv (chain := chain) (n := n) hs k (by omega) (by omega)
    rw [packN_succ hx]
    have h4 := (told_ok (packN chain n (l.take k)).os chain x.1 x.2).2
    have h5 := hs x (List.mem_of_getElem? hx)
    have h6 := layO_bs (packN chain n (l.take k)) x (toldV (packN chain n (l.take k)).os chain x.1 x.2) (by omega) (by omega)
    refine ⟨by unfold addV; rw [layO_len, h1], ?_, by unfold addV; omega⟩
    unfold addV layO
    split <;> (simp; omega)
theorem pack_os {chain : Int} {n : Nat} {l : List IV} : ∀ k, k ≤ l.length → (packN chain n (l.take k)).os.map (fun o => (o.kind, o.l)) = l.take k
  | 0, _ => by simp [packN]
  | k + 1, hk => by
    obtain ⟨x, hx⟩ : ∃ x, l[k]? = some x := ⟨_, List.getElem?_eq_getElem (by omega)⟩
    have h1 := pack_os (chain := chain) (n := n) (l := l) k (by omega)
    rw [packN_succ hx, List.take_add_one, hx]
    unfold addV layO
    split <;> simp [h1]
end Go.Proofs.YtgaklngnfecdaaaGreat.Pak
