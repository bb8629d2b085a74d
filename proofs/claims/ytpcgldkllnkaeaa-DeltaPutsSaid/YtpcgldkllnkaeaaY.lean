/-
  The document: the Reader.
-/
import Derived.Test.YtpcgldkllnkaeaaX
namespace Go.Proofs.Ytpcgldkllnkaeaa
open Go.RowKit Zk Zx
set_option linter.unusedVariables false
set_option linter.unusedSimpArgs false
theorem ofNat_toNat8 {c : UInt8} {x : Nat} (h : x = c.toNat) : UInt8.ofNat x = c := by
  subst h
  exact UInt8.ofNat_toNat
theorem triple {x : Nat × Nat × Nat} (h : x.2.2 = 0) : x = (x.1, x.2.1, 0) := Prod.ext rfl (Prod.ext rfl h)
theorem numF_vr : ∀ (r : List UInt8) (k a v j : Nat), numF r k a = (v, j, 0) → ∃ t, v = a + t * 128 ^ k ∧ k < j ∧ j ≤ k + r.length ∧ vr t = r.take (j - k) ∧ (0 < k → 0 < t)
  | [], k, a, v, j, h => by simp [numF] at h
  | c :: r, k, a, v, j, h => by
    have hc := c.toNat_lt
    rw [numF] at h
    split at h
    · simp at h
    · rename_i hF
      split at h
      · rename_i hl
        simp only [Prod.mk.injEq, and_true] at h
        refine ⟨c.toNat, by rw [← h.1, Nat.mod_eq_of_lt hl], by omega, by simp; omega, ?_, fun hk => by omega⟩
        rw [vr_low _ hl, show j - k = 1 by omega, List.take_succ_cons, List.take_zero, UInt8.ofNat_toNat]
      · rename_i hl
        obtain ⟨t, h1, h2, h3, h4, h5⟩ := numF_vr r (k + 1) _ v j h
        have h6 := h5 (by omega)
        refine ⟨c.toNat % 128 + t * 128, ?_, by omega, by simp only [List.length_cons]; omega, ?_, fun _ => by omega⟩
        · rw [h1, Nat.pow_succ, Nat.add_mul, Nat.add_assoc, Nat.mul_assoc t, Nat.mul_comm 128]
        · rw [vr_big _ (by omega), show j - k = (j - (k + 1)) + 1 by omega, List.take_succ_cons, show (c.toNat % 128 + t * 128) / 128 = t by omega, h4, ofNat_toNat8 (c := c) (by omega)]
theorem numF_max : ∀ (r : List UInt8) (k a : Nat), k ≤ 9 → a < 128 ^ k → (numF r k a).1 ≤ 18446744073709551615
  | [], k, a, hk, ha => by simp [numF]
  | c :: r, k, a, hk, ha => by
    have hc := c.toNat_lt
    rw [numF]
    split
    · simp
    · rename_i hF
      split
      · exact (num_lt hk ha (x := c.toNat) (by omega) (fun h => by omega)).2
      · exact numF_max r (k + 1) _ (by omega) (num_next ha)
theorem numF_back (rest : List UInt8) : ∀ (n t k a : Nat), t ≤ n → k ≤ 9 → (k = 9 → t ≤ 1) → (0 < k → 0 < t) → (t * 128 ^ k ≤ 18446744073709551615) → numF (vr t ++ rest) k a = (a + t * 128 ^ k, k + (vr t).length, 0)
  | n, t, k, a, hn, hk, h9, h0, hm => by
    by_cases hl : t < 128
    · rw [vr_low _ hl, List.singleton_append, numF, show (UInt8.ofNat t).toNat = t by rw [UInt8.toNat_ofNat']; omega, if_neg (by omega), if_pos hl, Nat.mod_eq_of_lt hl]
      rfl
    · have hk9 : k ≠ 9 := fun h => by have := h9 h; omega
      have e1 : (UInt8.ofNat (t % 128 + 128)).toNat = t % 128 + 128 := by rw [UInt8.toNat_ofNat']; omega
      have e2 : t / 128 * 128 ^ (k + 1) + t % 128 * 128 ^ k = t * 128 ^ k := by
        rw [Nat.pow_succ, Nat.mul_comm (128 ^ k), ← Nat.mul_assoc, ← Nat.add_mul]
        congr 1
        omega
      match n, hn with
      | 0, hn => exact absurd hn (by omega)
      | n + 1, hn =>
        have ih := numF_back rest n (t / 128) (k + 1) (a + t % 128 * 128 ^ k) (by omega) (by omega) (fun h => by
          have h8 : k = 8 := by omega
          subst h8
          have h4 : (128 : Nat) ^ 8 = 72057594037927936 := rfl
          rw [h4] at hm
          omega) (fun _ => by omega) (by omega)
        rw [vr_big _ (by omega), List.cons_append, numF, e1, if_neg (by omega), if_neg (by omega), show (t % 128 + 128) % 128 = t % 128 by omega, ih, List.length_cons]
        simp only [Prod.mk.injEq, and_true]
        omega
theorem numF_of_vr (rest : List UInt8) (t : Nat) (h : t ≤ 18446744073709551615) : numF (vr t ++ rest) 0 0 = (t, (vr t).length, 0) := by
  have := numF_back rest t t 0 0 (Nat.le_refl _) (by omega) (by omega) (by omega) (by omega)
  simpa using this
theorem vaN_le (l : List UInt8) (p q m : Nat) (hp : p ≤ l.length) : (vaN l p q m).2.1 ≤ l.length := by
  unfold vaN
  have := numF_at l p hp
  repeat' split
  all_goals simp only; omega
theorem txN_le (l : List UInt8) (p q : Nat) (m : Int) (hp : p ≤ l.length) : (txN l p q m).2.1 ≤ l.length := by
  unfold txN
  have := numF_at l p hp
  repeat' split
  all_goals simp only; omega
theorem vaN_max (l : List UInt8) (p q m : Nat) : (vaN l p q m).1 ≤ 18446744073709551615 := by
  have := numF_max (l.drop p) 0 0 (by omega) (by decide)
  unfold vaN
  repeat' split
  all_goals simp only; omega
/-- What is read without an error is what writing it makes. -/
theorem just_law (l : List UInt8) (M : Nat) (m : Int) (h : (txN l (vaN l 0 0 M).2.1 (vaN l 0 0 M).2.2 m).2.2 = 0) :
    vr (vaN l 0 0 M).1 ++ (vr (txN l (vaN l 0 0 M).2.1 (vaN l 0 0 M).2.2 m).1.length ++ (txN l (vaN l 0 0 M).2.1 (vaN l 0 0 M).2.2 m).1) = l.take (txN l (vaN l 0 0 M).2.1 (vaN l 0 0 M).2.2 m).2.1 := by
  have hq : (vaN l 0 0 M).2.2 = 0 := by
    by_cases hq : (vaN l 0 0 M).2.2 = 0
    · exact hq
    · rw [txN, if_pos hq] at h
      exact absurd h hq
  have hv : vaN l 0 0 M = ((numF l 0 0).1, (numF l 0 0).2.1, 0) ∧ (numF l 0 0).2.2 = 0 := by
    unfold vaN at hq ⊢
    rw [if_neg (by omega), List.drop_zero] at hq ⊢
    split at hq
    · rename_i h1; exact absurd hq h1
    · rename_i h1
      split at hq
      · simp at hq
      · rename_i h2
        rw [if_neg h1, if_neg h2]
        exact ⟨by rw [Nat.zero_add], by omega⟩
  obtain ⟨hv, he⟩ := hv
  rw [hv] at h ⊢
  simp only at h ⊢
  obtain ⟨t, h1, h2, h3, h4, _⟩ := numF_vr l 0 0 (numF l 0 0).1 (numF l 0 0).2.1 (triple he)
  have hvt : (numF l 0 0).1 = t := by omega
  have htx : txN l (numF l 0 0).2.1 0 m = (tkL l ((numF l 0 0).2.1 + (numF (l.drop (numF l 0 0).2.1) 0 0).2.1) (numF (l.drop (numF l 0 0).2.1) 0 0).1, (numF l 0 0).2.1 + (numF (l.drop (numF l 0 0).2.1) 0 0).2.1 + (numF (l.drop (numF l 0 0).2.1) 0 0).1, 0) ∧ (numF (l.drop (numF l 0 0).2.1) 0 0).2.2 = 0 ∧ (numF (l.drop (numF l 0 0).2.1) 0 0).1 ≤ l.length - ((numF l 0 0).2.1 + (numF (l.drop (numF l 0 0).2.1) 0 0).2.1) := by
    unfold txN at h ⊢
    rw [if_neg (by omega)] at h ⊢
    split at h
    · rename_i h5; exact absurd h h5
    · rename_i h5
      split at h
      · simp at h
      · rename_i h6
        split at h
        · rename_i h7
          rw [if_neg h5, if_neg h6, if_pos h7]
          exact ⟨rfl, by omega, h7⟩
        · simp at h
  obtain ⟨htx, he2, hle⟩ := htx
  rw [htx]
  simp only
  generalize hj : (numF l 0 0).2.1 = j at *
  obtain ⟨t2, g1, g2, g3, g4, _⟩ := numF_vr (l.drop j) 0 0 (numF (l.drop j) 0 0).1 (numF (l.drop j) 0 0).2.1 (triple he2)
  generalize (numF (l.drop j) 0 0).2.1 = i at *
  generalize (numF (l.drop j) 0 0).1 = s at *
  have hs : s = t2 := by omega
  rw [tkL_ok hle, hvt, h4, hs, g4, tkL, if_pos (by omega), Nat.sub_zero, Nat.sub_zero]
  have e1 : l.take (j + i + t2) = l.take j ++ ((l.drop j).take i ++ ((l.drop j).drop i).take t2) := by
    rw [Nat.add_assoc, List.take_add, List.take_add]
  rw [e1, List.drop_drop]


/-- The document's Reader at block g. -/
def xr (g : Nat) (A : Option Addr) (n c p q : Nat) : Res := blk g 88 #[.slice A n c, .int .i64 (p : Int), .int .i64 (q : Int)]
theorem xr_lt {w : World} {g n c p q : Nat} {A : Option Addr} (h : (xr g A n c p q).holds w) : ∀ i, (xr g A n c p q).dom i → i < w.heap.size := fun i hi => by
  have hi' : i = g := hi
  subst hi'
  exact Blk.lt h
theorem xr_like {w w' : World} {g n c p q : Nat} {A : Option Addr} (h : (xr g A n c p q).holds w) (k : Like w w') : (xr g A n c p q).holds w' := (xr g A n c p q).stable w w' (fun i hi => k.block i (xr_lt h i hi)) h
/-- A reading of old memory that the call does not write to. -/
theorem St.rdM {w0 w : World} {M : Nat → Prop} {rs : List Res} (S : St w0 M rs w) {size n c : Nat} {A : Option Addr} {xs : List Value} (h : Rs w0 size A n c xs) (hM : ∀ ad, 0 < n → A = some ad → ¬ M ad.block) : Rs w size A n c xs :=
  (fixed size A n c xs).stable w0 w (fun i ⟨ad, hn, hA, hi⟩ => by
    subst hi
    obtain ⟨ad', hA', hb, _⟩ := h.rd.2 hn
    rw [hA] at hA'
    cases hA'
    exact S.old _ hb (hM ad hn hA)) h
theorem xr_of {w w' : World} {g n c p' q' : Nat} {A : Option Addr} {r : Res} {X : Array Value} (h : Turned w w' r (blk g 88 X)) (hX : X = #[.slice A n c, .int .i64 (p' : Int), .int .i64 (q' : Int)]) : Turned w w' r (xr g A n c p' q') := by
  subst hX
  exact h
theorem mul7 (x k : Nat) (h : x % 128 * 128 ^ k ≤ 18446744073709551615) : IntKind.u64.wrap (((x : Int) % 128) * ((128 ^ k : Nat) : Int)) = ((x % 128 * 128 ^ k : Nat) : Int) := by
  rw [show ((x : Int) % 128) * ((128 ^ k : Nat) : Int) = ((x % 128 * 128 ^ k : Nat) : Int) by push_cast; rfl, IntKind.wrap_u64]
  omega
theorem pow7s (k : Nat) (h : k ≤ 8) : IntKind.u64.wrap (((128 ^ k : Nat) : Int) * 128) = ((128 ^ (k + 1) : Nat) : Int) := by
  have := pow_eight h
  rw [IntKind.wrap_u64, Nat.pow_succ]
  omega
/-- What the document's number tells. -/
def nuN (l : List UInt8) (p : Nat) : Nat × Nat × Nat := if (numF (l.drop p) 0 0).2.2 = 0 then numF (l.drop p) 0 0 else (0, 0, (numF (l.drop p) 0 0).2.2)
theorem at_one {l : List UInt8} {p : Nat} (h : p < l.length) : ∃ x, l[p]? = some x ∧ l.drop p = x :: l.drop (p + 1) :=
  ⟨l[p], List.getElem?_eq_getElem h, List.drop_eq_getElem_cons h⟩


set_option maxRecDepth 100000 in
theorem xnumber (g : Nat) (A : Option Addr) (n c : Nat) (l : List UInt8) (p q : Nat) (w0 : World) (hw : (xr g A n c p q).holds w0) (hb : Rs w0 1 A n c (bL l)) (hp : p ≤ l.length) (hn62 : n ≤ 70368744177664) :
    Calls Try.prog 59 #[.pointer (some ⟨g, 0, none⟩)] w0 fun e w' => ∃ u, e = .returned u ∧ Like w0 w' ∧ u = .tuple #[.int .u64 ((nuN l p).1 : Int), .int .i64 ((nuN l p).2.1 : Int), .int .i64 ((nuN l p).2.2 : Int)] := by
  refine enter1 (env := [(0, .pointer (some ⟨g, 0, none⟩))]) [.pointer (some ⟨g, 0, none⟩)] Try.func59 rfl Try.ntmps59 rfl rfl ?_
  have hnl := hb.lenb; have hcap := hb.cap; have hmx := hb.max; have S0 := St.start w0 noM
  refine T_seq fun K1 hK1 => ?_
  refine T_region ?_
  refine L_y (y_assign rfl) rfl ?_
  refine L_y (y_assign rfl) rfl ?_
  refine L_y (y_assign rfl) rfl ?_
  refine L_nil ?_
  refine hK1 _ _ ?_
  refine T_seq fun K2 hK2 => ?_
  refine T_region ?_
  refine L_y (y_assign rfl) rfl ?_
  refine L_y (y_assign rfl) rfl ?_
  refine L_nil ?_
  refine hK2 _ _ ?_
  refine T_seq fun K3 hK3 => ?_
  refine T_seq fun K4 hK4 => ?_
  refine T_region ?_
  refine L_y (y_assign rfl) rfl ?_
  refine L_nil ?_
  refine hK4 _ _ ?_
  refine T_block ?_
  refine T_loop2 [(0, _)] (fun (k : Nat) (a : Nat) => [(5, .int .u64 (a : Int)), (6, .int .u64 ((128 ^ k : Nat) : Int)), (7, .int .i64 (k : Int))]) (fun (k : Nat) (a : Nat) => 10 - k) (fun (k : Nat) (a : Nat) (w : World) => ((k ≤ 9 ∧ p + k ≤ l.length ∧ a < 128 ^ k) ∧ numF (l.drop (p + k)) k a = numF (l.drop p) 0 0) ∧ St w0 noM [] w) 0 0 (Sub.cons rfl (by first | rfl | exact congrArg (Value.int _) (by first | omega | decide)) (Sub.cons rfl (by first | rfl | exact congrArg (Value.int _) (by first | omega | decide)) (Sub.cons rfl (by first | rfl | exact congrArg (Value.int _) (by first | omega | decide)) (Sub.nil _)))) (Sub.cons rfl rfl (Sub.nil _)) ?_ ?_
  ·
    exact ⟨⟨⟨by omega, by omega, by decide⟩, rfl⟩, S0⟩
  ·
    intro k a w1 hrel
    obtain ⟨⟨⟨hk9, hpk, ha⟩, hN⟩, S1⟩ := hrel
    refine T_seq fun K5 hK5 => ?_
    refine T_seq fun K6 hK6 => ?_
    refine T_region ?_
    refine L_y (y_move rfl) rfl ?_
    refine L_y (y_lss rfl rfl) rfl ?_
    refine L_nil ?_
    refine hK6 _ _ ?_
    refine T_cond rfl (fun h10 => ?_) (fun h10 => ?_)
    ·
      refine T_skip ?_
      refine hK5 _ _ ?_
      refine T_seq fun K7 hK7 => ?_
      refine T_block ?_
      refine T_seq fun K8 hK8 => ?_
      refine T_seq fun K9 hK9 => ?_
      refine T_drawnL [(0, true), (1, true), (2, true), (3, true), (4, true), (5, true), (6, true), (7, true), (8, true), (9, true), (10, true), (11, true)] hmix (by kernel_rfl) fun w2 l2 => ?_
      have S2 := S1.like l2
      refine DL_y rfl (y_move rfl) rfl ?_
      refine DL_y rfl (y_nilp rfl) rfl ?_
      refine DL_y rfl (y_fieldA 1 Try.underlying88 rfl sz3 rfl rfl rfl) rfl ?_
      refine DL_y rfl (y_ldc Try.underlying3 rfl rfl (((S2.rdB hw).cell _).trans (show (#[.slice A n c, .int .i64 (p : Int), .int .i64 (q : Int)] : Array Value)[1]? = some (Value.int .i64 (p : Int)) from rfl))) rfl ?_
      refine DL_y rfl (y_move rfl) rfl ?_
      refine DL_y rfl (y_add rfl rfl (i64w (by omega))) rfl ?_
      refine DL_y rfl (y_move rfl) rfl ?_
      refine DL_y rfl (y_nilp rfl) rfl ?_
      refine DL_y rfl (y_fieldA 0 Try.underlying88 rfl sz22 rfl rfl rfl) rfl ?_
      refine DL_y rfl (y_ldc Try.underlying22 rfl rfl (((S2.rdB hw).cell _).trans (show (#[.slice A n c, .int .i64 (p : Int), .int .i64 (q : Int)] : Array Value)[0]? = some (Value.slice A n c) from rfl))) rfl ?_
      refine DL_y rfl (y_len Try.underlying22 rfl) rfl ?_
      refine DL_y rfl (y_geq rfl rfl) rfl ?_
      refine DL_nil ?_
      refine hK9 _ _ ?_
      refine T_cond rfl (fun h24 => ?_) (fun h24 => ?_)
      ·
        have hN2 : numF (l.drop p) 0 0 = (0, k, 10) := by rw [← hN, List.drop_eq_nil_of_le (by omega)]; rfl
        refine T_seq fun K10 hK10 => ?_
        refine T_region ?_
        refine L_y (y_assign rfl) rfl ?_
        refine L_y (y_assign rfl) rfl ?_
        refine L_y (y_assign rfl) rfl ?_
        refine L_nil ?_
        refine hK10 _ _ ?_
        refine T_ret ?_
        repeat (first | with_reducible refine up_then ?_ | with_reducible refine up_in ?_)
        refine ret3 rfl rfl rfl rfl ?_
        first | exact ⟨_, rfl, S2.like0, by rw [nuN, hN2, if_neg (by simp)]; rfl⟩ | exact ⟨_, rfl, S2.like0, by rw [nuN, hN2, if_pos (by simp)]; rfl⟩
      ·
        obtain ⟨x, hx, hdr⟩ := at_one (show p + k < l.length by omega)
        have hxl := x.toNat_lt
        refine T_skip ?_
        refine hK8 _ _ ?_
        refine T_seq fun K11 hK11 => ?_
        refine T_drawnL [(0, true), (1, true), (2, true), (3, true), (4, true), (5, true), (6, true), (7, true), (8, true), (9, true), (10, true), (11, true), (12, true), (13, true)] hmix (by kernel_rfl) fun w3 l3 => ?_
        have S3 := S2.like l3
        refine DL_y rfl (y_move rfl) rfl ?_
        refine DL_y rfl (y_nilp rfl) rfl ?_
        refine DL_y rfl (y_fieldA 0 Try.underlying88 rfl sz22 rfl rfl rfl) rfl ?_
        refine DL_y rfl (y_ldc Try.underlying22 rfl rfl (((S3.rdB hw).cell _).trans (show (#[.slice A n c, .int .i64 (p : Int), .int .i64 (q : Int)] : Array Value)[0]? = some (Value.slice A n c) from rfl))) rfl ?_
        refine DL_y rfl (y_move rfl) rfl ?_
        refine DL_y rfl (y_nilp rfl) rfl ?_
        refine DL_y rfl (y_fieldA 1 Try.underlying88 rfl sz3 rfl rfl rfl) rfl ?_
        refine DL_y rfl (y_ldc Try.underlying3 rfl rfl (((S3.rdB hw).cell _).trans (show (#[.slice A n c, .int .i64 (p : Int), .int .i64 (q : Int)] : Array Value)[1]? = some (Value.int .i64 (p : Int)) from rfl))) rfl ?_
        refine DL_y rfl (y_move rfl) rfl ?_
        refine DL_y rfl (y_add rfl rfl (i64w (by omega))) rfl ?_
        refine DL_y rfl (y_idx Try.underlying22 sz5 rfl rfl (S3.rd hb) inferInstance (by omega)) rfl ?_
        refine DL_y rfl (y_ldr Try.underlying5 rfl rfl (S3.rd hb) (bL_getX hx)) rfl ?_
        refine DL_y rfl (y_conv is5 Try.underlying65 rfl (u64w (by omega))) rfl ?_
        refine DL_y rfl (y_assign rfl) rfl ?_
        refine DL_nil ?_
        refine hK11 _ _ ?_
        refine T_seq fun K12 hK12 => ?_
        refine T_seq fun K13 hK13 => ?_
        refine T_region ?_
        refine L_y (y_move rfl) rfl ?_
        refine L_y (y_eql rfl rfl) rfl ?_
        refine L_y (y_move rfl) rfl ?_
        refine L_split 40 rfl (fun h40 => ?_) (fun h40 => ?_)
        ·
          refine L_gyes rfl rfl ?_
          refine L_y (y_move rfl) rfl ?_
          refine L_gyes rfl rfl ?_
          refine L_y (y_gtr rfl rfl) rfl ?_
          refine L_y ((by first | exact y_pickT rfl rfl | exact y_pickF rfl rfl)) rfl ?_
          refine L_y (y_move rfl) rfl ?_
          refine L_split 44 rfl (fun h44 => ?_) (fun h44 => ?_)
          ·
            refine L_gno rfl rfl rfl ?_
            refine L_gno rfl rfl rfl ?_
            refine L_gno rfl rfl rfl ?_
            refine L_gnu rfl rfl rfl ?_
            refine L_gnu rfl rfl rfl ?_
            refine L_gno rfl rfl rfl ?_
            refine L_y ((by first | exact y_pickT rfl rfl | exact y_pickF rfl rfl)) rfl ?_
            refine L_nil ?_
            refine hK13 _ _ ?_
            refine T_true rfl ?_
            refine T_seq fun K14 hK14 => ?_
            have hF : ((k = 9 ∧ 1 < x.toNat) ∨ (0 < k ∧ x.toNat = 0)) := by omega
            have hN2 : numF (l.drop p) 0 0 = (0, k + 1, 12) := by rw [← hN, hdr, numF, if_pos hF]
            refine T_region ?_
            refine L_y (y_assign rfl) rfl ?_
            refine L_y (y_assign rfl) rfl ?_
            refine L_y (y_assign rfl) rfl ?_
            refine L_nil ?_
            refine hK14 _ _ ?_
            refine T_ret ?_
            repeat (first | with_reducible refine up_then ?_ | with_reducible refine up_in ?_)
            refine ret3 rfl rfl rfl rfl ?_
            first | exact ⟨_, rfl, S3.like0, by rw [nuN, hN2, if_neg (by simp)]; rfl⟩ | exact ⟨_, rfl, S3.like0, by rw [nuN, hN2, if_pos (by simp)]; rfl⟩
          ·
            refine L_gyes rfl rfl ?_
            refine L_y (y_move rfl) rfl ?_
            refine L_gyes rfl rfl ?_
            refine L_y (y_gtr rfl rfl) rfl ?_
            refine L_gyes rfl rfl ?_
            refine L_y (y_move rfl) rfl ?_
            refine L_split 47 rfl (fun h47 => ?_) (fun h47 => ?_)
            ·
              refine L_gyes rfl rfl ?_
              refine L_y (y_move rfl) rfl ?_
              refine L_gyes rfl rfl ?_
              refine L_y (y_eql rfl rfl) rfl ?_
              refine L_gyes rfl rfl ?_
              refine L_y ((by first | exact y_pickT rfl rfl | exact y_pickF rfl rfl)) rfl ?_
              refine L_y ((by first | exact y_pickT rfl rfl | exact y_pickF rfl rfl)) rfl ?_
              refine L_nil ?_
              refine hK13 _ _ ?_
              refine T_cond rfl (fun h51 => ?_) (fun h51 => ?_)
              ·
                refine T_seq fun K15 hK15 => ?_
                have hF : ((k = 9 ∧ 1 < x.toNat) ∨ (0 < k ∧ x.toNat = 0)) := by omega
                have hN2 : numF (l.drop p) 0 0 = (0, k + 1, 12) := by rw [← hN, hdr, numF, if_pos hF]
                refine T_region ?_
                refine L_y (y_assign rfl) rfl ?_
                refine L_y (y_assign rfl) rfl ?_
                refine L_y (y_assign rfl) rfl ?_
                refine L_nil ?_
                refine hK15 _ _ ?_
                refine T_ret ?_
                repeat (first | with_reducible refine up_then ?_ | with_reducible refine up_in ?_)
                refine ret3 rfl rfl rfl rfl ?_
                first | exact ⟨_, rfl, S3.like0, by rw [nuN, hN2, if_neg (by simp)]; rfl⟩ | exact ⟨_, rfl, S3.like0, by rw [nuN, hN2, if_pos (by simp)]; rfl⟩
              ·
                refine T_skip ?_
                refine hK12 _ _ ?_
                refine T_seq fun K16 hK16 => ?_
                have hF : ¬ ((k = 9 ∧ 1 < x.toNat) ∨ (0 < k ∧ x.toNat = 0)) := by omega
                have hnm := num_lt hk9 ha (x := x.toNat) (by omega) (fun h => by omega)
                refine T_region ?_
                refine L_y (y_move rfl) rfl ?_
                refine L_y (y_move rfl) rfl ?_
                refine L_y (y_rem rfl rfl (by omega) (remI (by omega))) rfl ?_
                refine L_y (y_move rfl) rfl ?_
                refine L_y (y_mul rfl rfl (mul7 _ k hnm.1)) rfl ?_
                refine L_y (y_add rfl rfl (show _ = ((a + x.toNat % 128 * 128 ^ k : Nat) : Int) by rw [IntKind.wrap_u64]; omega)) rfl ?_
                refine L_y (y_assign rfl) rfl ?_
                refine L_nil ?_
                refine hK16 _ _ ?_
                refine T_seq fun K17 hK17 => ?_
                refine T_seq fun K18 hK18 => ?_
                refine T_region ?_
                refine L_y (y_move rfl) rfl ?_
                refine L_y (y_lss rfl rfl) rfl ?_
                refine L_nil ?_
                refine hK18 _ _ ?_
                refine T_cond rfl (fun h59 => ?_) (fun h59 => ?_)
                ·
                  have hN2 : numF (l.drop p) 0 0 = (a + x.toNat % 128 * 128 ^ k, k + 1, 0) := by rw [← hN, hdr, numF, if_neg hF, if_pos (by omega)]
                  refine T_seq fun K19 hK19 => ?_
                  refine T_region ?_
                  refine L_y (y_move rfl) rfl ?_
                  refine L_y (y_move rfl) rfl ?_
                  refine L_y (y_add rfl rfl (i64w (by omega))) rfl ?_
                  refine L_y (y_assign rfl) rfl ?_
                  refine L_y (y_assign rfl) rfl ?_
                  refine L_y (y_assign rfl) rfl ?_
                  refine L_nil ?_
                  refine hK19 _ _ ?_
                  refine T_ret ?_
                  repeat (first | with_reducible refine up_then ?_ | with_reducible refine up_in ?_)
                  refine ret3 rfl rfl rfl rfl ?_
                  first | exact ⟨_, rfl, S3.like0, by rw [nuN, hN2, if_neg (by simp)]; rfl⟩ | exact ⟨_, rfl, S3.like0, by rw [nuN, hN2, if_pos (by simp)]; rfl⟩
                ·
                  refine T_skip ?_
                  refine hK17 _ _ ?_
                  have hk8 : k ≤ 8 := by omega
                  refine T_region ?_
                  refine L_y (y_move rfl) rfl ?_
                  refine L_y (y_mul rfl rfl (pow7s k hk8)) rfl ?_
                  refine L_y (y_assign rfl) rfl ?_
                  refine L_nil ?_
                  refine hK7 _ _ ?_
                  refine T_region ?_
                  refine L_y (y_move rfl) rfl ?_
                  refine L_y (y_add rfl rfl (i64w (by omega))) rfl ?_
                  refine L_y (y_assign rfl) rfl ?_
                  refine L_nil ?_
                  refine ⟨k + 1, a + x.toNat % 128 * 128 ^ k, by omega, ⟨⟨⟨by omega, by omega, num_next ha⟩, by rw [← hN, hdr, numF, if_neg hF, if_neg (by omega)]; rfl⟩, S3⟩, ?_⟩
                  exact (Sub.cons rfl (by first | rfl | exact congrArg (Value.int _) (by omega)) (Sub.cons rfl (by first | rfl | exact congrArg (Value.int _) (by omega)) (Sub.cons rfl (by first | rfl | exact congrArg (Value.int _) (by omega)) (Sub.cons rfl rfl (Sub.nil _)))))
            ·
              refine L_gno rfl rfl rfl ?_
              refine L_gno rfl rfl rfl ?_
              refine L_gyes rfl rfl ?_
              refine L_y ((by first | exact y_pickT rfl rfl | exact y_pickF rfl rfl)) rfl ?_
              refine L_y ((by first | exact y_pickT rfl rfl | exact y_pickF rfl rfl)) rfl ?_
              refine L_nil ?_
              refine hK13 _ _ ?_
              refine T_false rfl ?_
              refine T_skip ?_
              refine hK12 _ _ ?_
              refine T_seq fun K20 hK20 => ?_
              have hF : ¬ ((k = 9 ∧ 1 < x.toNat) ∨ (0 < k ∧ x.toNat = 0)) := by omega
              have hnm := num_lt hk9 ha (x := x.toNat) (by omega) (fun h => by omega)
              refine T_region ?_
              refine L_y (y_move rfl) rfl ?_
              refine L_y (y_move rfl) rfl ?_
              refine L_y (y_rem rfl rfl (by omega) (remI (by omega))) rfl ?_
              refine L_y (y_move rfl) rfl ?_
              refine L_y (y_mul rfl rfl (mul7 _ k hnm.1)) rfl ?_
              refine L_y (y_add rfl rfl (show _ = ((a + x.toNat % 128 * 128 ^ k : Nat) : Int) by rw [IntKind.wrap_u64]; omega)) rfl ?_
              refine L_y (y_assign rfl) rfl ?_
              refine L_nil ?_
              refine hK20 _ _ ?_
              refine T_seq fun K21 hK21 => ?_
              refine T_seq fun K22 hK22 => ?_
              refine T_region ?_
              refine L_y (y_move rfl) rfl ?_
              refine L_y (y_lss rfl rfl) rfl ?_
              refine L_nil ?_
              refine hK22 _ _ ?_
              refine T_cond rfl (fun h59 => ?_) (fun h59 => ?_)
              ·
                have hN2 : numF (l.drop p) 0 0 = (a + x.toNat % 128 * 128 ^ k, k + 1, 0) := by rw [← hN, hdr, numF, if_neg hF, if_pos (by omega)]
                refine T_seq fun K23 hK23 => ?_
                refine T_region ?_
                refine L_y (y_move rfl) rfl ?_
                refine L_y (y_move rfl) rfl ?_
                refine L_y (y_add rfl rfl (i64w (by omega))) rfl ?_
                refine L_y (y_assign rfl) rfl ?_
                refine L_y (y_assign rfl) rfl ?_
                refine L_y (y_assign rfl) rfl ?_
                refine L_nil ?_
                refine hK23 _ _ ?_
                refine T_ret ?_
                repeat (first | with_reducible refine up_then ?_ | with_reducible refine up_in ?_)
                refine ret3 rfl rfl rfl rfl ?_
                first | exact ⟨_, rfl, S3.like0, by rw [nuN, hN2, if_neg (by simp)]; rfl⟩ | exact ⟨_, rfl, S3.like0, by rw [nuN, hN2, if_pos (by simp)]; rfl⟩
              ·
                refine T_skip ?_
                refine hK21 _ _ ?_
                have hk8 : k ≤ 8 := by omega
                refine T_region ?_
                refine L_y (y_move rfl) rfl ?_
                refine L_y (y_mul rfl rfl (pow7s k hk8)) rfl ?_
                refine L_y (y_assign rfl) rfl ?_
                refine L_nil ?_
                refine hK7 _ _ ?_
                refine T_region ?_
                refine L_y (y_move rfl) rfl ?_
                refine L_y (y_add rfl rfl (i64w (by omega))) rfl ?_
                refine L_y (y_assign rfl) rfl ?_
                refine L_nil ?_
                refine ⟨k + 1, a + x.toNat % 128 * 128 ^ k, by omega, ⟨⟨⟨by omega, by omega, num_next ha⟩, by rw [← hN, hdr, numF, if_neg hF, if_neg (by omega)]; rfl⟩, S3⟩, ?_⟩
                exact (Sub.cons rfl (by first | rfl | exact congrArg (Value.int _) (by omega)) (Sub.cons rfl (by first | rfl | exact congrArg (Value.int _) (by omega)) (Sub.cons rfl (by first | rfl | exact congrArg (Value.int _) (by omega)) (Sub.cons rfl rfl (Sub.nil _)))))
        ·
          refine L_gno rfl rfl rfl ?_
          refine L_gno rfl rfl rfl ?_
          refine L_y ((by first | exact y_pickT rfl rfl | exact y_pickF rfl rfl)) rfl ?_
          refine L_y (y_move rfl) rfl ?_
          refine L_gyes rfl rfl ?_
          refine L_y (y_move rfl) rfl ?_
          refine L_gyes rfl rfl ?_
          refine L_y (y_gtr rfl rfl) rfl ?_
          refine L_gyes rfl rfl ?_
          refine L_y (y_move rfl) rfl ?_
          refine L_split 47 rfl (fun h47 => ?_) (fun h47 => ?_)
          ·
            refine L_gyes rfl rfl ?_
            refine L_y (y_move rfl) rfl ?_
            refine L_gyes rfl rfl ?_
            refine L_y (y_eql rfl rfl) rfl ?_
            refine L_gyes rfl rfl ?_
            refine L_y ((by first | exact y_pickT rfl rfl | exact y_pickF rfl rfl)) rfl ?_
            refine L_y ((by first | exact y_pickT rfl rfl | exact y_pickF rfl rfl)) rfl ?_
            refine L_nil ?_
            refine hK13 _ _ ?_
            refine T_cond rfl (fun h51 => ?_) (fun h51 => ?_)
            ·
              refine T_seq fun K24 hK24 => ?_
              have hF : ((k = 9 ∧ 1 < x.toNat) ∨ (0 < k ∧ x.toNat = 0)) := by omega
              have hN2 : numF (l.drop p) 0 0 = (0, k + 1, 12) := by rw [← hN, hdr, numF, if_pos hF]
              refine T_region ?_
              refine L_y (y_assign rfl) rfl ?_
              refine L_y (y_assign rfl) rfl ?_
              refine L_y (y_assign rfl) rfl ?_
              refine L_nil ?_
              refine hK24 _ _ ?_
              refine T_ret ?_
              repeat (first | with_reducible refine up_then ?_ | with_reducible refine up_in ?_)
              refine ret3 rfl rfl rfl rfl ?_
              first | exact ⟨_, rfl, S3.like0, by rw [nuN, hN2, if_neg (by simp)]; rfl⟩ | exact ⟨_, rfl, S3.like0, by rw [nuN, hN2, if_pos (by simp)]; rfl⟩
            ·
              refine T_skip ?_
              refine hK12 _ _ ?_
              refine T_seq fun K25 hK25 => ?_
              have hF : ¬ ((k = 9 ∧ 1 < x.toNat) ∨ (0 < k ∧ x.toNat = 0)) := by omega
              have hnm := num_lt hk9 ha (x := x.toNat) (by omega) (fun h => by omega)
              refine T_region ?_
              refine L_y (y_move rfl) rfl ?_
              refine L_y (y_move rfl) rfl ?_
              refine L_y (y_rem rfl rfl (by omega) (remI (by omega))) rfl ?_
              refine L_y (y_move rfl) rfl ?_
              refine L_y (y_mul rfl rfl (mul7 _ k hnm.1)) rfl ?_
              refine L_y (y_add rfl rfl (show _ = ((a + x.toNat % 128 * 128 ^ k : Nat) : Int) by rw [IntKind.wrap_u64]; omega)) rfl ?_
              refine L_y (y_assign rfl) rfl ?_
              refine L_nil ?_
              refine hK25 _ _ ?_
              refine T_seq fun K26 hK26 => ?_
              refine T_seq fun K27 hK27 => ?_
              refine T_region ?_
              refine L_y (y_move rfl) rfl ?_
              refine L_y (y_lss rfl rfl) rfl ?_
              refine L_nil ?_
              refine hK27 _ _ ?_
              refine T_cond rfl (fun h59 => ?_) (fun h59 => ?_)
              ·
                have hN2 : numF (l.drop p) 0 0 = (a + x.toNat % 128 * 128 ^ k, k + 1, 0) := by rw [← hN, hdr, numF, if_neg hF, if_pos (by omega)]
                refine T_seq fun K28 hK28 => ?_
                refine T_region ?_
                refine L_y (y_move rfl) rfl ?_
                refine L_y (y_move rfl) rfl ?_
                refine L_y (y_add rfl rfl (i64w (by omega))) rfl ?_
                refine L_y (y_assign rfl) rfl ?_
                refine L_y (y_assign rfl) rfl ?_
                refine L_y (y_assign rfl) rfl ?_
                refine L_nil ?_
                refine hK28 _ _ ?_
                refine T_ret ?_
                repeat (first | with_reducible refine up_then ?_ | with_reducible refine up_in ?_)
                refine ret3 rfl rfl rfl rfl ?_
                first | exact ⟨_, rfl, S3.like0, by rw [nuN, hN2, if_neg (by simp)]; rfl⟩ | exact ⟨_, rfl, S3.like0, by rw [nuN, hN2, if_pos (by simp)]; rfl⟩
              ·
                refine T_skip ?_
                refine hK26 _ _ ?_
                have hk8 : k ≤ 8 := by omega
                refine T_region ?_
                refine L_y (y_move rfl) rfl ?_
                refine L_y (y_mul rfl rfl (pow7s k hk8)) rfl ?_
                refine L_y (y_assign rfl) rfl ?_
                refine L_nil ?_
                refine hK7 _ _ ?_
                refine T_region ?_
                refine L_y (y_move rfl) rfl ?_
                refine L_y (y_add rfl rfl (i64w (by omega))) rfl ?_
                refine L_y (y_assign rfl) rfl ?_
                refine L_nil ?_
                refine ⟨k + 1, a + x.toNat % 128 * 128 ^ k, by omega, ⟨⟨⟨by omega, by omega, num_next ha⟩, by rw [← hN, hdr, numF, if_neg hF, if_neg (by omega)]; rfl⟩, S3⟩, ?_⟩
                exact (Sub.cons rfl (by first | rfl | exact congrArg (Value.int _) (by omega)) (Sub.cons rfl (by first | rfl | exact congrArg (Value.int _) (by omega)) (Sub.cons rfl (by first | rfl | exact congrArg (Value.int _) (by omega)) (Sub.cons rfl rfl (Sub.nil _)))))
          ·
            refine L_gno rfl rfl rfl ?_
            refine L_gno rfl rfl rfl ?_
            refine L_gyes rfl rfl ?_
            refine L_y ((by first | exact y_pickT rfl rfl | exact y_pickF rfl rfl)) rfl ?_
            refine L_y ((by first | exact y_pickT rfl rfl | exact y_pickF rfl rfl)) rfl ?_
            refine L_nil ?_
            refine hK13 _ _ ?_
            refine T_false rfl ?_
            refine T_skip ?_
            refine hK12 _ _ ?_
            refine T_seq fun K29 hK29 => ?_
            have hF : ¬ ((k = 9 ∧ 1 < x.toNat) ∨ (0 < k ∧ x.toNat = 0)) := by omega
            have hnm := num_lt hk9 ha (x := x.toNat) (by omega) (fun h => by omega)
            refine T_region ?_
            refine L_y (y_move rfl) rfl ?_
            refine L_y (y_move rfl) rfl ?_
            refine L_y (y_rem rfl rfl (by omega) (remI (by omega))) rfl ?_
            refine L_y (y_move rfl) rfl ?_
            refine L_y (y_mul rfl rfl (mul7 _ k hnm.1)) rfl ?_
            refine L_y (y_add rfl rfl (show _ = ((a + x.toNat % 128 * 128 ^ k : Nat) : Int) by rw [IntKind.wrap_u64]; omega)) rfl ?_
            refine L_y (y_assign rfl) rfl ?_
            refine L_nil ?_
            refine hK29 _ _ ?_
            refine T_seq fun K30 hK30 => ?_
            refine T_seq fun K31 hK31 => ?_
            refine T_region ?_
            refine L_y (y_move rfl) rfl ?_
            refine L_y (y_lss rfl rfl) rfl ?_
            refine L_nil ?_
            refine hK31 _ _ ?_
            refine T_cond rfl (fun h59 => ?_) (fun h59 => ?_)
            ·
              have hN2 : numF (l.drop p) 0 0 = (a + x.toNat % 128 * 128 ^ k, k + 1, 0) := by rw [← hN, hdr, numF, if_neg hF, if_pos (by omega)]
              refine T_seq fun K32 hK32 => ?_
              refine T_region ?_
              refine L_y (y_move rfl) rfl ?_
              refine L_y (y_move rfl) rfl ?_
              refine L_y (y_add rfl rfl (i64w (by omega))) rfl ?_
              refine L_y (y_assign rfl) rfl ?_
              refine L_y (y_assign rfl) rfl ?_
              refine L_y (y_assign rfl) rfl ?_
              refine L_nil ?_
              refine hK32 _ _ ?_
              refine T_ret ?_
              repeat (first | with_reducible refine up_then ?_ | with_reducible refine up_in ?_)
              refine ret3 rfl rfl rfl rfl ?_
              first | exact ⟨_, rfl, S3.like0, by rw [nuN, hN2, if_neg (by simp)]; rfl⟩ | exact ⟨_, rfl, S3.like0, by rw [nuN, hN2, if_pos (by simp)]; rfl⟩
            ·
              refine T_skip ?_
              refine hK30 _ _ ?_
              have hk8 : k ≤ 8 := by omega
              refine T_region ?_
              refine L_y (y_move rfl) rfl ?_
              refine L_y (y_mul rfl rfl (pow7s k hk8)) rfl ?_
              refine L_y (y_assign rfl) rfl ?_
              refine L_nil ?_
              refine hK7 _ _ ?_
              refine T_region ?_
              refine L_y (y_move rfl) rfl ?_
              refine L_y (y_add rfl rfl (i64w (by omega))) rfl ?_
              refine L_y (y_assign rfl) rfl ?_
              refine L_nil ?_
              refine ⟨k + 1, a + x.toNat % 128 * 128 ^ k, by omega, ⟨⟨⟨by omega, by omega, num_next ha⟩, by rw [← hN, hdr, numF, if_neg hF, if_neg (by omega)]; rfl⟩, S3⟩, ?_⟩
              exact (Sub.cons rfl (by first | rfl | exact congrArg (Value.int _) (by omega)) (Sub.cons rfl (by first | rfl | exact congrArg (Value.int _) (by omega)) (Sub.cons rfl (by first | rfl | exact congrArg (Value.int _) (by omega)) (Sub.cons rfl rfl (Sub.nil _)))))
    ·
      exfalso; omega


theorem new_of {w0 w : World} {M : Nat → Prop} {rs : List Res} (S : St w0 M rs w) (k : Nat) {s : Res} (hk : rs[k]? = some s) (hM : ∀ i, M i → ¬ s.dom i) : ∀ i, s.dom i → w0.heap.size ≤ i := fun i hi => by
  have h := ((S.res _ (List.mem_of_getElem? hk)).2 i hi).2
  rcases h with h | h
  · exact h
  · exact absurd hi (hM i h)
theorem nu_e (l : List UInt8) (p : Nat) : (nuN l p).2.2 = (numF (l.drop p) 0 0).2.2 := by
  unfold nuN
  split
  · rfl
  · rfl
theorem nu_ok {l : List UInt8} {p : Nat} (h : (numF (l.drop p) 0 0).2.2 = 0) : nuN l p = numF (l.drop p) 0 0 := by rw [nuN, if_pos h]
theorem nu_at (l : List UInt8) (p : Nat) (h : p ≤ l.length) : p + (nuN l p).2.1 ≤ l.length := by
  have := numF_at l p h
  unfold nuN
  split
  · exact this
  · exact h
theorem nu_max (l : List UInt8) (p : Nat) : (nuN l p).1 ≤ 18446744073709551615 := by
  have := numF_max (l.drop p) 0 0 (by omega) (by decide)
  unfold nuN
  split
  · exact this
  · simp
theorem rn_nat (l : List UInt8) (p q k : Nat) : rnL l p q (k : Int) = rwL l p q k ∧ rnP l p q (k : Int) = rwP l p q k ∧ rnE l p q (k : Int) = rwE l p q k :=
  ⟨by rw [rnL, if_neg (by omega), Int.toNat_natCast], by rw [rnP, if_neg (by omega), Int.toNat_natCast], by rw [rnE, if_neg (by omega), Int.toNat_natCast]⟩
theorem rw_dead {l : List UInt8} {p q k : Nat} (h : q ≠ 0) : rwL l p q k = [] ∧ rwP l p q k = p ∧ rwE l p q k = q := ⟨by rw [rwL, if_neg h], by rw [rwP, if_neg h], by rw [rwE, if_neg h]⟩
theorem rn_dead {l : List UInt8} {p q : Nat} {m : Int} (h : q ≠ 0) : rnL l p q m = [] ∧ rnP l p q m = p ∧ rnE l p q m = q := by
  obtain ⟨h1, h2, h3⟩ := rw_dead (l := l) (p := p) (k := m.toNat) h
  refine ⟨?_, ?_, ?_⟩
  · rw [rnL]; split; rfl; exact h1
  · rw [rnP]; split; rfl; exact h2
  · by_cases hm : m < 0; rw [rnE, if_pos hm, if_pos h]; rw [rnE, if_neg hm]; exact h3
theorem rn_neg {l : List UInt8} {p : Nat} {m : Int} (h : m < 0) : rnL l p 0 m = [] ∧ rnP l p 0 m = p ∧ rnE l p 0 m = 3 := ⟨by rw [rnL, if_pos h], by rw [rnP, if_pos h], by rw [rnE, if_pos h]; rfl⟩
theorem rn_no {l : List UInt8} {p k : Nat} (h : ¬ k ≤ l.length - p) : rnL l p 0 (k : Int) = [] ∧ rnP l p 0 (k : Int) = p ∧ rnE l p 0 (k : Int) = 10 := by
  obtain ⟨e1, e2, e3⟩ := rn_nat l p 0 k
  exact ⟨by rw [e1, rwL, if_pos rfl, tkL_no h], by rw [e2, rwP, if_pos rfl, tkP, if_neg h], by rw [e3, rwE, if_pos rfl, tkE_no h]⟩
theorem rn_ok {l : List UInt8} {p k : Nat} (h : k ≤ l.length - p) : rnL l p 0 (k : Int) = (l.drop p).take k ∧ rnP l p 0 (k : Int) = p + k ∧ rnE l p 0 (k : Int) = 0 := by
  obtain ⟨e1, e2, e3⟩ := rn_nat l p 0 k
  exact ⟨by rw [e1, rwL, if_pos rfl, tkL, if_pos h], by rw [e2, rwP, if_pos rfl, tkP, if_pos h], by rw [e3, rwE, if_pos rfl, tkE_ok h]⟩


set_option maxRecDepth 100000 in
theorem xraw (g : Nat) (A : Option Addr) (n c : Nat) (l : List UInt8) (p q : Nat) (m : Int) (w0 : World) (hw : (xr g A n c p q).holds w0) (hb : Rs w0 1 A n c (bL l)) (hp : p ≤ l.length) (hn62 : n ≤ 70368744177664) (hbg : ∀ ad, 0 < n → A = some ad → ad.block ≠ g) (hm : m ≤ 9223372036854775807) :
    Calls Try.prog 50 #[.pointer (some ⟨g, 0, none⟩), .int .i64 m] w0 fun e w' => ∃ u, e = .returned u ∧ Turned w0 w' (xr g A n c p q) (xr g A n c (rnP l p q m) (rnE l p q m)) ∧ ∃ B c2, u = .slice B (rnL l p q m).length c2 ∧ (row 5 1 B (rnL l p q m).length c2 (bL (rnL l p q m))).holds w' ∧ ∀ i, (row 5 1 B (rnL l p q m).length c2 (bL (rnL l p q m))).dom i → w0.heap.size ≤ i := by
  refine enter1 (env := [(0, .pointer (some ⟨g, 0, none⟩)), (1, .int .i64 m)]) [.pointer (some ⟨g, 0, none⟩), .int .i64 m] Try.func50 rfl Try.ntmps50 rfl rfl ?_
  have hnl := hb.lenb; have hcap := hb.cap; have hmx := hb.max; have S0 := St.borrow1 (blk g 88 #[.slice A n c, .int .i64 (p : Int), .int .i64 (q : Int)]) hw (xr_lt hw)
  refine T_seq fun K1 hK1 => ?_
  refine T_region ?_
  refine L_y (y_assign rfl) rfl ?_
  refine L_nil ?_
  refine hK1 _ _ ?_
  refine T_seq fun K2 hK2 => ?_
  refine T_seq fun K3 hK3 => ?_
  refine T_region ?_
  refine L_y (y_move rfl) rfl ?_
  refine L_y (y_nilp rfl) rfl ?_
  refine L_y (y_fieldA 2 Try.underlying88 rfl sz3 rfl rfl rfl) rfl ?_
  refine L_y (y_ldc Try.underlying3 rfl rfl (((S0.blk 0 rfl).cell _).trans (by rfl))) rfl ?_
  refine L_y (y_neq rfl rfl) rfl ?_
  refine L_nil ?_
  refine hK3 _ _ ?_
  refine T_cond rfl (fun h10 => ?_) (fun h10 => ?_)
  ·
    refine T_seq fun K4 hK4 => ?_
    refine T_region ?_
    refine L_y (y_assign rfl) rfl ?_
    refine L_nil ?_
    refine hK4 _ _ ?_
    refine T_ret ?_
    repeat (first | with_reducible refine up_then ?_ | with_reducible refine up_in ?_)
    refine ret1 rfl rfl ?_
    obtain ⟨e1, e2, e3⟩ := rn_dead (l := l) (p := p) (m := m) (show q ≠ 0 by omega)
    exact ⟨_, rfl, by rw [e2, e3]; exact xr_of (S0.turned1 0 rfl) rfl, none, 0, by rw [e1]; rfl, by rw [e1]; exact ⟨by simp [bL], .inl ⟨rfl, rfl⟩⟩, fun i hi => by rw [e1] at hi; simp [row, Value.ownBlock] at hi⟩
  ·
    have hq : q = 0 := by omega
    subst hq
    refine T_skip ?_
    refine hK2 _ _ ?_
    refine T_seq fun K5 hK5 => ?_
    refine T_seq fun K6 hK6 => ?_
    refine T_region ?_
    refine L_y (y_move rfl) rfl ?_
    refine L_y (y_lss rfl rfl) rfl ?_
    refine L_nil ?_
    refine hK6 _ _ ?_
    refine T_cond rfl (fun h12 => ?_) (fun h12 => ?_)
    ·
      refine T_seq fun K7 hK7 => ?_
      refine T_region ?_
      refine L_y (y_move rfl) rfl ?_
      refine L_y (y_nilp rfl) rfl ?_
      refine L_y (y_fieldA 2 Try.underlying88 rfl sz3 rfl rfl rfl) rfl ?_
      refine L_o (o_st1 S0 0 rfl rfl rfl rfl sz3 (by simp; done) fun w1 S1 => ?_)
      refine L_nil ?_
      refine hK7 _ _ ?_
      refine T_seq fun K8 hK8 => ?_
      refine T_region ?_
      refine L_y (y_assign rfl) rfl ?_
      refine L_nil ?_
      refine hK8 _ _ ?_
      refine T_ret ?_
      repeat (first | with_reducible refine up_then ?_ | with_reducible refine up_in ?_)
      refine ret1 rfl rfl ?_
      obtain ⟨e1, e2, e3⟩ := rn_neg (l := l) (p := p) (m := m) (by omega)
      exact ⟨_, rfl, by rw [e2, e3]; exact xr_of (S1.turned1 0 rfl) rfl, none, 0, by rw [e1]; rfl, by rw [e1]; exact ⟨by simp [bL], .inl ⟨rfl, rfl⟩⟩, fun i hi => by rw [e1] at hi; simp [row, Value.ownBlock] at hi⟩
    ·
      obtain ⟨k, rfl⟩ : ∃ k : Nat, m = (k : Int) := ⟨m.toNat, by omega⟩
      refine T_skip ?_
      refine hK5 _ _ ?_
      refine T_seq fun K9 hK9 => ?_
      refine T_seq fun K10 hK10 => ?_
      refine T_drawnL [(0, true), (1, true), (2, true), (3, true), (4, true), (5, true), (6, true), (7, true), (8, true), (9, true), (10, true), (11, true)] hmix (by kernel_rfl) fun w2 l2 => ?_
      have S2 := S0.like l2
      refine DL_y rfl (y_move rfl) rfl ?_
      refine DL_y rfl (y_move rfl) rfl ?_
      refine DL_y rfl (y_nilp rfl) rfl ?_
      refine DL_y rfl (y_fieldA 0 Try.underlying88 rfl sz22 rfl rfl rfl) rfl ?_
      refine DL_y rfl (y_ldc Try.underlying22 rfl rfl (((S2.blk 0 rfl).cell _).trans (by rfl))) rfl ?_
      refine DL_y rfl (y_len Try.underlying22 rfl) rfl ?_
      refine DL_y rfl (y_move rfl) rfl ?_
      refine DL_y rfl (y_nilp rfl) rfl ?_
      refine DL_y rfl (y_fieldA 1 Try.underlying88 rfl sz3 rfl rfl rfl) rfl ?_
      refine DL_y rfl (y_ldc Try.underlying3 rfl rfl (((S2.blk 0 rfl).cell _).trans (by rfl))) rfl ?_
      refine DL_y rfl (y_sub rfl rfl (i64w (by omega))) rfl ?_
      refine DL_y rfl (y_gtr rfl rfl) rfl ?_
      refine DL_nil ?_
      refine hK10 _ _ ?_
      refine T_cond rfl (fun h27 => ?_) (fun h27 => ?_)
      ·
        refine T_seq fun K11 hK11 => ?_
        refine T_region ?_
        refine L_y (y_move rfl) rfl ?_
        refine L_y (y_nilp rfl) rfl ?_
        refine L_y (y_fieldA 2 Try.underlying88 rfl sz3 rfl rfl rfl) rfl ?_
        refine L_o (o_st1 S2 0 rfl rfl rfl rfl sz3 (by simp; done) fun w3 S3 => ?_)
        refine L_nil ?_
        refine hK11 _ _ ?_
        refine T_seq fun K12 hK12 => ?_
        refine T_region ?_
        refine L_y (y_assign rfl) rfl ?_
        refine L_nil ?_
        refine hK12 _ _ ?_
        refine T_ret ?_
        repeat (first | with_reducible refine up_then ?_ | with_reducible refine up_in ?_)
        refine ret1 rfl rfl ?_
        obtain ⟨e1, e2, e3⟩ := rn_no (l := l) (p := p) (k := k) (by omega)
        exact ⟨_, rfl, by rw [e2, e3]; exact xr_of (S3.turned1 0 rfl) rfl, none, 0, by rw [e1]; rfl, by rw [e1]; exact ⟨by simp [bL], .inl ⟨rfl, rfl⟩⟩, fun i hi => by rw [e1] at hi; simp [row, Value.ownBlock] at hi⟩
      ·
        refine T_skip ?_
        refine hK9 _ _ ?_
        refine T_seq fun K13 hK13 => ?_
        refine T_region ?_
        have S4 := S2.nilrow 5 1
        refine L_y (y_assign rfl) rfl ?_
        refine L_nil ?_
        refine hK13 _ _ ?_
        refine T_seq fun K14 hK14 => ?_
        refine T_tail 16 hmix (by kernel_rfl) fun w5 l5 K15 hK15 => ?_
        have S5 := S4.like l5
        refine HL_y (y_move rfl) rfl ?_
        refine HL_y (y_move rfl) rfl ?_
        refine HL_y (y_nilp rfl) rfl ?_
        refine HL_y (y_fieldA 0 Try.underlying88 rfl sz22 rfl rfl rfl) rfl ?_
        refine HL_y (y_ldc Try.underlying22 rfl rfl (((S5.blk 0 rfl).cell _).trans (by rfl))) rfl ?_
        refine HL_y (y_move rfl) rfl ?_
        refine HL_y (y_nilp rfl) rfl ?_
        refine HL_y (y_fieldA 1 Try.underlying88 rfl sz3 rfl rfl rfl) rfl ?_
        refine HL_y (y_ldc Try.underlying3 rfl rfl (((S5.blk 0 rfl).cell _).trans (by rfl))) rfl ?_
        refine HL_y (y_move rfl) rfl ?_
        refine HL_y (y_nilp rfl) rfl ?_
        refine HL_y (y_fieldA 1 Try.underlying88 rfl sz3 rfl rfl rfl) rfl ?_
        refine HL_y (y_ldc Try.underlying3 rfl rfl (((S5.blk 0 rfl).cell _).trans (by rfl))) rfl ?_
        refine HL_y (y_move rfl) rfl ?_
        refine HL_y (y_add rfl rfl (i64w (by omega))) rfl ?_
        refine HL_y (y_slice Try.underlying22 sz5 rfl rfl rfl inferInstance inferInstance (by omega) (by omega)) rfl ?_
        refine HL_nil ?_
        refine hK15 _ ?_
        refine L_o (o_app te22 S5 1 rfl rfl rfl (((S5.rdM hb hbg).cutb (l := p) (u := p + k) (by omega) (by omega))) (bL_one _) rfl (by omega) (by omega) fun A6 c6 w6 S6 => ?_)
        refine L_y (y_assign rfl) rfl ?_
        refine L_nil ?_
        refine hK14 _ _ ?_
        refine T_seq fun K16 hK16 => ?_
        refine T_region ?_
        refine L_y (y_move rfl) rfl ?_
        refine L_y (y_move rfl) rfl ?_
        refine L_y (y_nilp rfl) rfl ?_
        refine L_y (y_fieldA 1 Try.underlying88 rfl sz3 rfl rfl rfl) rfl ?_
        refine L_y (y_ldc Try.underlying3 rfl rfl (((S6.blk 0 rfl).cell _).trans (by rfl))) rfl ?_
        refine L_y (y_move rfl) rfl ?_
        refine L_y (y_add rfl rfl (i64w (by omega))) rfl ?_
        refine L_y (y_nilp rfl) rfl ?_
        refine L_y (y_fieldA 1 Try.underlying88 rfl sz3 rfl rfl rfl) rfl ?_
        refine L_o (o_st1 S6 0 rfl rfl rfl rfl sz3 (by simp; done) fun w7 S7 => ?_)
        refine L_nil ?_
        refine hK16 _ _ ?_
        refine T_seq fun K17 hK17 => ?_
        refine T_region ?_
        refine L_y (y_move rfl) rfl ?_
        refine L_y (y_assign rfl) rfl ?_
        refine L_nil ?_
        refine hK17 _ _ ?_
        refine T_ret ?_
        repeat (first | with_reducible refine up_then ?_ | with_reducible refine up_in ?_)
        refine ret1 rfl rfl ?_
        obtain ⟨e1, e2, e3⟩ := rn_ok (l := l) (p := p) (k := k) (by omega)
        have e4 : p + k - p = k := by omega
        have e5 : (rnL l p 0 (k : Int)).length = 0 + (p + k - p) := by rw [e1, List.length_take, List.length_drop]; omega
        have S99 := S7.rowc 1 rfl (n' := (rnL l p 0 (k : Int)).length) (xs' := bL (rnL l p 0 (k : Int))) e5.symm (by rw [e1, e4]; rfl)
        refine ⟨_, rfl, by rw [e2, e3]; exact xr_of (S99.turned1 0 rfl) rfl, _, _, by rw [e5], S99.get 1 rfl, new_of S99 1 rfl (fun i hi => St.apart_ S99 0 1 rfl rfl rfl i hi)⟩


theorem rw_le (l : List UInt8) (p q k : Nat) : (rwL l p q k).length ≤ k := by
  unfold rwL
  split
  · exact tk_le l p k
  · simp


set_option maxRecDepth 100000 in
theorem xbig (g : Nat) (A : Option Addr) (n c : Nat) (l : List UInt8) (p q : Nat) (j : Nat) (w0 : World) (hw : (xr g A n c p q).holds w0) (hb : Rs w0 1 A n c (bL l)) (hp : p ≤ l.length) (hn62 : n ≤ 70368744177664) (hbg : ∀ ad, 0 < n → A = some ad → ad.block ≠ g) (hj : j ≤ 8) :
    Calls Try.prog 49 #[.pointer (some ⟨g, 0, none⟩), .int .i64 (j : Int)] w0 fun e w' => ∃ u, e = .returned u ∧ u = .int .u64 (be (rwL l p q j) : Int) ∧ Turned w0 w' (xr g A n c p q) (xr g A n c (rwP l p q j) (rwE l p q j)) := by
  refine enter1 (env := [(0, .pointer (some ⟨g, 0, none⟩)), (1, .int .i64 (j : Int))]) [.pointer (some ⟨g, 0, none⟩), .int .i64 (j : Int)] Try.func49 rfl Try.ntmps49 rfl rfl ?_
  have hnl := hb.lenb; have hcap := hb.cap; have hmx := hb.max; have S0 := St.borrow1 (blk g 88 #[.slice A n c, .int .i64 (p : Int), .int .i64 (q : Int)]) hw (xr_lt hw)
  refine T_seq fun K1 hK1 => ?_
  refine T_region ?_
  refine L_y (y_assign rfl) rfl ?_
  refine L_nil ?_
  refine hK1 _ _ ?_
  refine T_seq fun K2 hK2 => ?_
  refine T_region ?_
  refine L_y (y_move rfl) rfl ?_
  refine L_y (y_move rfl) rfl ?_
  refine L_o (o_call Try.func50 rfl rfl (xraw g A n c l p q (j : Int) w0 (S0.get 0 rfl) hb hp hn62 hbg (by omega)) rfl rfl ?_)
  rintro e1 w1 ⟨v1, rfl, T1, B9, d9, rfl, hr1, hd1⟩
  refine ⟨_, rfl, ?_⟩
  have S1 := S0.turn 0 rfl T1
  obtain ⟨e1, e2, e3⟩ := rn_nat l p q j
  have HR := rs_of_row hr1
  rw [show (rnL l p q (j : Int)).length = (rwL l p q j).length from congrArg _ e1, show bL (rnL l p q (j : Int)) = bL (rwL l p q j) from congrArg _ e1] at HR
  rw [show (Value.slice B9 (rnL l p q (j : Int)).length d9) = Value.slice B9 (rwL l p q j).length d9 by rw [e1]]
  rw [e2, e3] at S1
  have htl := rw_le l p q j
  refine L_y (y_assign rfl) rfl ?_
  refine L_nil ?_
  refine hK2 _ _ ?_
  refine T_seq fun K3 hK3 => ?_
  refine T_region ?_
  refine L_y (y_assign rfl) rfl ?_
  refine L_nil ?_
  refine hK3 _ _ ?_
  refine T_seq fun K4 hK4 => ?_
  refine T_seq fun K5 hK5 => ?_
  refine T_region ?_
  refine L_y (y_assign rfl) rfl ?_
  refine L_nil ?_
  refine hK5 _ _ ?_
  refine T_block ?_
  refine T_loop1 [(5, _)] (fun (k : Nat) => [(6, .int .u64 (be ((rwL l p q j).take k) : Int)), (7, .int .i64 (k : Int))]) (fun (k : Nat) => (rwL l p q j).length - k) (fun (k : Nat) (w : World) => (k ≤ (rwL l p q j).length ∧ Rs w 1 B9 (rwL l p q j).length d9 (bL (rwL l p q j))) ∧ St w0 (xr g A n c p q).dom [xr g A n c (rwP l p q j) (rwE l p q j)] w) 0 (Sub.cons rfl (by first | rfl | exact congrArg (Value.int _) (by omega)) (Sub.cons rfl (by first | rfl | exact congrArg (Value.int _) (by omega)) (Sub.nil _))) (Sub.cons rfl rfl (Sub.nil _)) ?_ ?_
  ·
    exact ⟨⟨Nat.zero_le _, HR⟩, S1⟩
  ·
    intro k w2 hrel
    obtain ⟨⟨hk, RX⟩, S2⟩ := hrel
    refine T_seq fun K6 hK6 => ?_
    refine T_seq fun K7 hK7 => ?_
    refine T_region ?_
    refine L_y (y_move rfl) rfl ?_
    refine L_y (y_move rfl) rfl ?_
    refine L_y (y_len Try.underlying22 rfl) rfl ?_
    refine L_y (y_lss rfl rfl) rfl ?_
    refine L_nil ?_
    refine hK7 _ _ ?_
    refine T_cond rfl (fun h14 => ?_) (fun h14 => ?_)
    ·
      obtain ⟨x, hx⟩ : ∃ x, (rwL l p q j)[k]? = some x := ⟨_, List.getElem?_eq_getElem (by omega)⟩
      have hxl := x.toNat_lt
      have hbb := be_bound (k := k) (j := 7) (show k < (rwL l p q j).length by omega) (by omega)
      refine T_skip ?_
      refine hK6 _ _ ?_
      refine T_seq fun K8 hK8 => ?_
      refine T_block ?_
      refine T_region ?_
      refine L_y (y_move rfl) rfl ?_
      refine L_y (y_mul rfl rfl (IntKind.wrap_u64 _)) rfl ?_
      refine L_y (y_move rfl) rfl ?_
      refine L_y (y_move rfl) rfl ?_
      refine L_y (y_idx Try.underlying22 sz5 rfl rfl (RX) inferInstance (by omega)) rfl ?_
      refine L_y (y_ldr Try.underlying5 rfl rfl RX (bL_getX hx)) rfl ?_
      refine L_y (y_conv is5 Try.underlying65 rfl (u64w (by omega))) rfl ?_
      refine L_y (y_add rfl rfl (IntKind.wrap_u64 _)) rfl ?_
      refine L_y (y_assign rfl) rfl ?_
      refine L_nil ?_
      refine hK8 _ _ ?_
      refine T_region ?_
      refine L_y (y_move rfl) rfl ?_
      refine L_y (y_add rfl rfl (i64w (by omega))) rfl ?_
      refine L_y (y_assign rfl) rfl ?_
      refine L_nil ?_
      refine ⟨k + 1, by omega, ⟨⟨by omega, RX⟩, S2⟩, ?_⟩
      exact (Sub.cons rfl (congrArg (Value.int _) (by rw [be_take hx]; omega)) (Sub.cons rfl (by first | rfl | exact congrArg (Value.int _) (by omega)) (Sub.cons rfl rfl (Sub.nil _))))
    ·
      have hke : k = (rwL l p q j).length := by omega
      subst hke
      refine T_exit ?_
      refine hK4 _ _ ?_
      refine T_seq fun K9 hK9 => ?_
      refine T_region ?_
      refine L_y (y_move rfl) rfl ?_
      refine L_y (y_assign rfl) rfl ?_
      refine L_nil ?_
      refine hK9 _ _ ?_
      refine T_ret ?_
      repeat (first | with_reducible refine up_then ?_ | with_reducible refine up_in ?_)
      refine ret1 rfl rfl ?_
      exact ⟨_, rfl, by rw [List.take_length], S2.turned1 0 rfl⟩


set_option maxRecDepth 100000 in
theorem xvar (g : Nat) (A : Option Addr) (n c : Nat) (l : List UInt8) (p q : Nat) (m : Nat) (w0 : World) (hw : (xr g A n c p q).holds w0) (hb : Rs w0 1 A n c (bL l)) (hp : p ≤ l.length) (hn62 : n ≤ 70368744177664) (hbg : ∀ ad, 0 < n → A = some ad → ad.block ≠ g) :
    Calls Try.prog 48 #[.pointer (some ⟨g, 0, none⟩), .int .u64 (m : Int)] w0 fun e w' => ∃ u, e = .returned u ∧ u = .int .u64 ((vaN l p q m).1 : Int) ∧ Turned w0 w' (xr g A n c p q) (xr g A n c (vaN l p q m).2.1 (vaN l p q m).2.2) := by
  refine enter1 (env := [(0, .pointer (some ⟨g, 0, none⟩)), (1, .int .u64 (m : Int))]) [.pointer (some ⟨g, 0, none⟩), .int .u64 (m : Int)] Try.func48 rfl Try.ntmps48 rfl rfl ?_
  have hnl := hb.lenb; have hcap := hb.cap; have hmx := hb.max; have S0 := St.borrow1 (blk g 88 #[.slice A n c, .int .i64 (p : Int), .int .i64 (q : Int)]) hw (xr_lt hw)
  refine T_seq fun K1 hK1 => ?_
  refine T_region ?_
  refine L_y (y_assign rfl) rfl ?_
  refine L_nil ?_
  refine hK1 _ _ ?_
  refine T_seq fun K2 hK2 => ?_
  refine T_seq fun K3 hK3 => ?_
  refine T_region ?_
  refine L_y (y_move rfl) rfl ?_
  refine L_y (y_nilp rfl) rfl ?_
  refine L_y (y_fieldA 2 Try.underlying88 rfl sz3 rfl rfl rfl) rfl ?_
  refine L_y (y_ldc Try.underlying3 rfl rfl (((S0.blk 0 rfl).cell _).trans (by rfl))) rfl ?_
  refine L_y (y_neq rfl rfl) rfl ?_
  refine L_nil ?_
  refine hK3 _ _ ?_
  refine T_cond rfl (fun h12 => ?_) (fun h12 => ?_)
  ·
    refine T_seq fun K4 hK4 => ?_
    refine T_region ?_
    refine L_y (y_assign rfl) rfl ?_
    refine L_nil ?_
    refine hK4 _ _ ?_
    refine T_ret ?_
    repeat (first | with_reducible refine up_then ?_ | with_reducible refine up_in ?_)
    refine ret1 rfl rfl ?_
    have hV : vaN l p q m = (0, p, q) := by rw [vaN, if_pos (by omega)]
    exact ⟨_, rfl, by rw [hV]; rfl, by rw [hV]; exact xr_of (S0.turned1 0 rfl) rfl⟩
  ·
    have hq : q = 0 := by omega
    subst hq
    refine T_skip ?_
    refine hK2 _ _ ?_
    refine T_seq fun K5 hK5 => ?_
    refine T_region ?_
    refine L_y (y_move rfl) rfl ?_
    refine L_o (o_call Try.func59 rfl rfl (xnumber g A n c l p _ w0 (S0.get 0 rfl) hb hp hn62) rfl rfl ?_)
    rintro e1 w1 ⟨v1, rfl, l1, rfl⟩
    refine ⟨_, rfl, ?_⟩
    have S1 := S0.like l1
    have hE := nu_e l p
    have hat := nu_at l p hp
    have hmx2 := nu_max l p
    refine L_y (y_move rfl) rfl ?_
    refine L_y (y_extract rfl rfl) rfl ?_
    refine L_y (y_extract rfl rfl) rfl ?_
    refine L_y (y_extract rfl rfl) rfl ?_
    refine L_y (y_assign rfl) rfl ?_
    refine L_y (y_assign rfl) rfl ?_
    refine L_y (y_assign rfl) rfl ?_
    refine L_nil ?_
    refine hK5 _ _ ?_
    refine T_seq fun K6 hK6 => ?_
    refine T_seq fun K7 hK7 => ?_
    refine T_region ?_
    refine L_y (y_move rfl) rfl ?_
    refine L_y (y_eql rfl rfl) rfl ?_
    refine L_y (y_move rfl) rfl ?_
    refine L_split 21 rfl (fun h21 => ?_) (fun h21 => ?_)
    ·
      refine L_gyes rfl rfl ?_
      refine L_y (y_move rfl) rfl ?_
      refine L_gyes rfl rfl ?_
      refine L_y (y_move rfl) rfl ?_
      refine L_gyes rfl rfl ?_
      refine L_y (y_gtr rfl rfl) rfl ?_
      refine L_y ((by first | exact y_pickT rfl rfl | exact y_pickF rfl rfl)) rfl ?_
      refine L_nil ?_
      refine hK7 _ _ ?_
      refine T_cond rfl (fun h25 => ?_) (fun h25 => ?_)
      ·
        refine T_region ?_
        refine L_y (y_assign rfl) rfl ?_
        refine L_nil ?_
        refine hK6 _ _ ?_
        refine T_seq fun K8 hK8 => ?_
        refine T_seq fun K9 hK9 => ?_
        refine T_region ?_
        refine L_y (y_move rfl) rfl ?_
        refine L_y (y_neq rfl rfl) rfl ?_
        refine L_nil ?_
        refine hK9 _ _ ?_
        refine T_cond rfl (fun h27 => ?_) (fun h27 => ?_)
        ·
          refine T_seq fun K10 hK10 => ?_
          refine T_region ?_
          refine L_y (y_move rfl) rfl ?_
          refine L_y (y_move rfl) rfl ?_
          refine L_y (y_nilp rfl) rfl ?_
          refine L_y (y_fieldA 2 Try.underlying88 rfl sz3 rfl rfl rfl) rfl ?_
          refine L_o (o_st1 S1 0 rfl rfl rfl rfl sz3 (by simp; done) fun w3 S3 => ?_)
          refine L_nil ?_
          refine hK10 _ _ ?_
          refine T_seq fun K11 hK11 => ?_
          refine T_region ?_
          refine L_y (y_assign rfl) rfl ?_
          refine L_nil ?_
          refine hK11 _ _ ?_
          refine T_ret ?_
          repeat (first | with_reducible refine up_then ?_ | with_reducible refine up_in ?_)
          refine ret1 rfl rfl ?_
          have hV : vaN l p 0 m = (0, p, 3) := by rw [vaN, if_neg (by omega), if_neg (by omega), if_pos (by rw [← nu_ok (by omega)]; omega)]
          exact ⟨_, rfl, by rw [hV]; rfl, by rw [hV]; exact xr_of (S3.turned1 0 rfl) rfl⟩
        ·
          refine T_skip ?_
          refine hK8 _ _ ?_
          refine T_seq fun K12 hK12 => ?_
          refine T_region ?_
          refine L_y (y_move rfl) rfl ?_
          refine L_y (y_move rfl) rfl ?_
          refine L_y (y_nilp rfl) rfl ?_
          refine L_y (y_fieldA 1 Try.underlying88 rfl sz3 rfl rfl rfl) rfl ?_
          refine L_y (y_ldc Try.underlying3 rfl rfl (((S1.blk 0 rfl).cell _).trans (by rfl))) rfl ?_
          refine L_y (y_move rfl) rfl ?_
          refine L_y (y_add rfl rfl (i64w (by omega))) rfl ?_
          refine L_y (y_nilp rfl) rfl ?_
          refine L_y (y_fieldA 1 Try.underlying88 rfl sz3 rfl rfl rfl) rfl ?_
          refine L_o (o_st1 S1 0 rfl rfl rfl rfl sz3 (by simp; done) fun w4 S4 => ?_)
          refine L_nil ?_
          refine hK12 _ _ ?_
          refine T_seq fun K13 hK13 => ?_
          refine T_region ?_
          refine L_y (y_move rfl) rfl ?_
          refine L_y (y_assign rfl) rfl ?_
          refine L_nil ?_
          refine hK13 _ _ ?_
          refine T_ret ?_
          repeat (first | with_reducible refine up_then ?_ | with_reducible refine up_in ?_)
          refine ret1 rfl rfl ?_
          exfalso; omega
      ·
        refine T_skip ?_
        refine hK6 _ _ ?_
        refine T_seq fun K14 hK14 => ?_
        refine T_seq fun K15 hK15 => ?_
        refine T_region ?_
        refine L_y (y_move rfl) rfl ?_
        refine L_y (y_neq rfl rfl) rfl ?_
        refine L_nil ?_
        refine hK15 _ _ ?_
        refine T_cond rfl (fun h27 => ?_) (fun h27 => ?_)
        ·
          refine T_seq fun K16 hK16 => ?_
          refine T_region ?_
          refine L_y (y_move rfl) rfl ?_
          refine L_y (y_move rfl) rfl ?_
          refine L_y (y_nilp rfl) rfl ?_
          refine L_y (y_fieldA 2 Try.underlying88 rfl sz3 rfl rfl rfl) rfl ?_
          refine L_o (o_st1 S1 0 rfl rfl rfl rfl sz3 (by simp; done) fun w5 S5 => ?_)
          refine L_nil ?_
          refine hK16 _ _ ?_
          refine T_seq fun K17 hK17 => ?_
          refine T_region ?_
          refine L_y (y_assign rfl) rfl ?_
          refine L_nil ?_
          refine hK17 _ _ ?_
          refine T_ret ?_
          repeat (first | with_reducible refine up_then ?_ | with_reducible refine up_in ?_)
          refine ret1 rfl rfl ?_
          exfalso; omega
        ·
          refine T_skip ?_
          refine hK14 _ _ ?_
          refine T_seq fun K18 hK18 => ?_
          refine T_region ?_
          refine L_y (y_move rfl) rfl ?_
          refine L_y (y_move rfl) rfl ?_
          refine L_y (y_nilp rfl) rfl ?_
          refine L_y (y_fieldA 1 Try.underlying88 rfl sz3 rfl rfl rfl) rfl ?_
          refine L_y (y_ldc Try.underlying3 rfl rfl (((S1.blk 0 rfl).cell _).trans (by rfl))) rfl ?_
          refine L_y (y_move rfl) rfl ?_
          refine L_y (y_add rfl rfl (i64w (by omega))) rfl ?_
          refine L_y (y_nilp rfl) rfl ?_
          refine L_y (y_fieldA 1 Try.underlying88 rfl sz3 rfl rfl rfl) rfl ?_
          refine L_o (o_st1 S1 0 rfl rfl rfl rfl sz3 (by simp; done) fun w6 S6 => ?_)
          refine L_nil ?_
          refine hK18 _ _ ?_
          refine T_seq fun K19 hK19 => ?_
          refine T_region ?_
          refine L_y (y_move rfl) rfl ?_
          refine L_y (y_assign rfl) rfl ?_
          refine L_nil ?_
          refine hK19 _ _ ?_
          refine T_ret ?_
          repeat (first | with_reducible refine up_then ?_ | with_reducible refine up_in ?_)
          refine ret1 rfl rfl ?_
          have hV : vaN l p 0 m = ((nuN l p).1, p + (nuN l p).2.1, 0) := by rw [vaN, if_neg (by omega), if_neg (by omega), if_neg (by rw [← nu_ok (by omega)]; omega), nu_ok (by omega)]
          exact ⟨_, rfl, by rw [hV]; rfl, by rw [hV]; exact xr_of (S6.turned1 0 rfl) rfl⟩
    ·
      refine L_gno rfl rfl rfl ?_
      refine L_gno rfl rfl rfl ?_
      refine L_gno rfl rfl rfl ?_
      refine L_y ((by first | exact y_pickT rfl rfl | exact y_pickF rfl rfl)) rfl ?_
      refine L_nil ?_
      refine hK7 _ _ ?_
      refine T_false rfl ?_
      refine T_skip ?_
      refine hK6 _ _ ?_
      refine T_seq fun K20 hK20 => ?_
      refine T_seq fun K21 hK21 => ?_
      refine T_region ?_
      refine L_y (y_move rfl) rfl ?_
      refine L_y (y_neq rfl rfl) rfl ?_
      refine L_nil ?_
      refine hK21 _ _ ?_
      refine T_cond rfl (fun h27 => ?_) (fun h27 => ?_)
      ·
        refine T_seq fun K22 hK22 => ?_
        refine T_region ?_
        refine L_y (y_move rfl) rfl ?_
        refine L_y (y_move rfl) rfl ?_
        refine L_y (y_nilp rfl) rfl ?_
        refine L_y (y_fieldA 2 Try.underlying88 rfl sz3 rfl rfl rfl) rfl ?_
        refine L_o (o_st1 S1 0 rfl rfl rfl rfl sz3 (by simp; done) fun w7 S7 => ?_)
        refine L_nil ?_
        refine hK22 _ _ ?_
        refine T_seq fun K23 hK23 => ?_
        refine T_region ?_
        refine L_y (y_assign rfl) rfl ?_
        refine L_nil ?_
        refine hK23 _ _ ?_
        refine T_ret ?_
        repeat (first | with_reducible refine up_then ?_ | with_reducible refine up_in ?_)
        refine ret1 rfl rfl ?_
        have hV : vaN l p 0 m = (0, p, (nuN l p).2.2) := by rw [vaN, if_neg (by omega), if_pos (by omega), hE]
        exact ⟨_, rfl, by rw [hV]; rfl, by rw [hV]; exact xr_of (S7.turned1 0 rfl) rfl⟩
      ·
        refine T_skip ?_
        refine hK20 _ _ ?_
        refine T_seq fun K24 hK24 => ?_
        refine T_region ?_
        refine L_y (y_move rfl) rfl ?_
        refine L_y (y_move rfl) rfl ?_
        refine L_y (y_nilp rfl) rfl ?_
        refine L_y (y_fieldA 1 Try.underlying88 rfl sz3 rfl rfl rfl) rfl ?_
        refine L_y (y_ldc Try.underlying3 rfl rfl (((S1.blk 0 rfl).cell _).trans (by rfl))) rfl ?_
        refine L_y (y_move rfl) rfl ?_
        refine L_y (y_add rfl rfl (i64w (by omega))) rfl ?_
        refine L_y (y_nilp rfl) rfl ?_
        refine L_y (y_fieldA 1 Try.underlying88 rfl sz3 rfl rfl rfl) rfl ?_
        refine L_o (o_st1 S1 0 rfl rfl rfl rfl sz3 (by simp; done) fun w8 S8 => ?_)
        refine L_nil ?_
        refine hK24 _ _ ?_
        refine T_seq fun K25 hK25 => ?_
        refine T_region ?_
        refine L_y (y_move rfl) rfl ?_
        refine L_y (y_assign rfl) rfl ?_
        refine L_nil ?_
        refine hK25 _ _ ?_
        refine T_ret ?_
        repeat (first | with_reducible refine up_then ?_ | with_reducible refine up_in ?_)
        refine ret1 rfl rfl ?_
        exfalso; omega
end Go.Proofs.Ytpcgldkllnkaeaa
