import Derived.Test.YtcbnhmcfdpcbhaaMgTakesW2
import Derived.Test.YtcbnhmcfdpcbhaaMgTakesW1
import Derived.Test.YtcbnhmcfdpcbhaaRows
import Derived.Deep.CondSized
import Derived.JoinedCond

/-
  The document: the Reader.
-/
namespace Go.Proofs.Ytcbnhmcfdpcbhaa
open Go.RowKit Zk Zx
set_option linter.unusedVariables false
set_option linter.unusedSimpArgs false

/-- The document's Reader at block g. -/
def xr (g : Nat) (A : Option Addr) (n c p q : Nat) : Res := blk g 48 #[.slice A n c, .int .i64 (p : Int), .int .i64 (q : Int)]
theorem xr_lt {w : World} {g n c p q : Nat} {A : Option Addr} (h : (xr g A n c p q).holds w) : ∀ i, (xr g A n c p q).dom i → i < w.heap.size := fun i hi => by
  have hi' : i = g := hi
  subst hi'
  exact Blk.lt h
/-- A reading of old memory that the call does not write to. -/
theorem St.rdM {w0 w : World} {M : Nat → Prop} {rs : List Res} (S : St w0 M rs w) {size n c : Nat} {A : Option Addr} {xs : List Value} (h : Rs w0 size A n c xs) (hM : ∀ ad, 0 < n → A = some ad → ¬ M ad.block) : Rs w size A n c xs :=
  (fixed size A n c xs).stable w0 w (fun i ⟨ad, hn, hA, hi⟩ => by
    subst hi
    obtain ⟨ad', hA', hb, _⟩ := h.rd.2 hn
    rw [hA] at hA'
    cases hA'
    exact S.old _ hb (hM ad hn hA)) h
theorem xr_of {w w' : World} {g n c p' q' : Nat} {A : Option Addr} {r : Res} {X : Array Value} (h : Turned w w' r (blk g 48 X)) (hX : X = #[.slice A n c, .int .i64 (p' : Int), .int .i64 (q' : Int)]) : Turned w w' r (xr g A n c p' q') := by
  subst hX
  exact h
theorem mul7 (x k : Nat) (h : x % 128 * 128 ^ k ≤ 18446744073709551615) : IntKind.u64.wrap (((x : Int) % 128) * ((128 ^ k : Nat) : Int)) = ((x % 128 * 128 ^ k : Nat) : Int) := by
  rw [show ((x : Int) % 128) * ((128 ^ k : Nat) : Int) = ((x % 128 * 128 ^ k : Nat) : Int) by push_cast; rfl, IntKind.wrap_u64]
  omega
theorem pow7s (k : Nat) (h : k ≤ 8) : IntKind.u64.wrap (((128 ^ k : Nat) : Int) * 128) = ((128 ^ (k + 1) : Nat) : Int) := by
  have := pow_eight h
  rw [IntKind.wrap_u64, Nat.pow_succ]
  omega
/-- What the document's number tells. -/
def nuN (l : List UInt8) (p : Nat) : Nat × Nat × Nat := if (numF (l.drop p) 0 0).2.2 = 0 then numF (l.drop p) 0 0 else (0, 0, (numF (l.drop p) 0 0).2.2)
theorem at_one {l : List UInt8} {p : Nat} (h : p < l.length) : ∃ x, l[p]? = some x ∧ l.drop p = x :: l.drop (p + 1) :=
  ⟨l[p], List.getElem?_eq_getElem h, List.drop_eq_getElem_cons h⟩


set_option maxRecDepth 100000 in
theorem xend (g : Nat) (A : Option Addr) (n c : Nat) (l : List UInt8) (p q : Nat) (w0 : World) (hw : (xr g A n c p q).holds w0) (hb : Rs w0 1 A n c (bL l)) (hp : p ≤ l.length) (hn62 : n ≤ 140737488355300) :
    Calls Try.prog 44 #[.pointer (some ⟨g, 0, none⟩)] w0 fun e w' => ∃ u, e = .returned u ∧ Like w0 w' ∧ u = .int .i64 (if q ≠ 0 then (q : Int) else if p < n then 11 else 0) := by
  refine enter1 (env := [(0, .pointer (some ⟨g, 0, none⟩))]) [.pointer (some ⟨g, 0, none⟩)] Try.func44 rfl Try.ntmps44 rfl rfl ?_
  have hnl := hb.lenb; have hcap := hb.cap; have hmx := hb.max; have S0 := St.start w0 noM
  refine T_seq fun K1 hK1 => ?_
  refine T_region ?_
  refine L_y (y_assign rfl) rfl ?_
  refine L_nil ?_
  refine hK1 _ _ ?_
  refine T_seq fun K2 hK2 => ?_
  refine T_seq fun K3 hK3 => ?_
  refine T_region ?_
  refine L_y (y_move rfl) rfl ?_
  refine L_y (y_nilp rfl) rfl ?_
  refine L_y (y_fieldA 2 Try.underlying48 rfl sz3 rfl rfl rfl) rfl ?_
  refine L_y (y_ldc Try.underlying3 rfl rfl (((S0.rdB hw).cell _).trans (show (#[.slice A n c, .int .i64 (p : Int), .int .i64 (q : Int)] : Array Value)[2]? = some (Value.int .i64 (q : Int)) from rfl))) rfl ?_
  refine L_y (y_neq rfl rfl) rfl ?_
  refine L_nil ?_
  refine hK3 _ _ ?_
  refine T_cond rfl (fun h7 => ?_) (fun h7 => ?_)
  ·
    refine T_seq fun K4 hK4 => ?_
    refine T_region ?_
    refine L_y (y_move rfl) rfl ?_
    refine L_y (y_nilp rfl) rfl ?_
    refine L_y (y_fieldA 2 Try.underlying48 rfl sz3 rfl rfl rfl) rfl ?_
    refine L_y (y_ldc Try.underlying3 rfl rfl (((S0.rdB hw).cell _).trans (show (#[.slice A n c, .int .i64 (p : Int), .int .i64 (q : Int)] : Array Value)[2]? = some (Value.int .i64 (q : Int)) from rfl))) rfl ?_
    refine L_y (y_assign rfl) rfl ?_
    refine L_nil ?_
    refine hK4 _ _ ?_
    refine T_ret ?_
    refine ur ?_
    refine ret1 rfl rfl ?_
    exact ⟨_, rfl, S0.like0, by first | (rw [if_pos (by omega)]; done) | (rw [if_neg (by omega), if_pos (by omega)]; done) | (rw [if_neg (by omega), if_neg (by omega)]; done)⟩
  ·
    refine T_skip ?_
    refine hK2 _ _ ?_
    refine T_seq fun K5 hK5 => ?_
    refine T_seq fun K6 hK6 => ?_
    refine T_drawnL [(0, true), (1, true), (2, true), (3, true), (4, true), (5, true), (6, true), (7, true), (8, true), (9, true)] hmix (by kernel_rfl) fun w1 l1 => ?_
    have S1 := S0.like l1
    refine DL_y rfl (y_move rfl) rfl ?_
    refine DL_y rfl (y_nilp rfl) rfl ?_
    refine DL_y rfl (y_fieldA 1 Try.underlying48 rfl sz3 rfl rfl rfl) rfl ?_
    refine DL_y rfl (y_ldc Try.underlying3 rfl rfl (((S1.rdB hw).cell _).trans (show (#[.slice A n c, .int .i64 (p : Int), .int .i64 (q : Int)] : Array Value)[1]? = some (Value.int .i64 (p : Int)) from rfl))) rfl ?_
    refine DL_y rfl (y_move rfl) rfl ?_
    refine DL_y rfl (y_nilp rfl) rfl ?_
    refine DL_y rfl (y_fieldA 0 Try.underlying48 rfl sz25 rfl rfl rfl) rfl ?_
    refine DL_y rfl (y_ldc Try.underlying25 rfl rfl (((S1.rdB hw).cell _).trans (show (#[.slice A n c, .int .i64 (p : Int), .int .i64 (q : Int)] : Array Value)[0]? = some (Value.slice A n c) from rfl))) rfl ?_
    refine DL_y rfl (y_len Try.underlying25 rfl) rfl ?_
    refine DL_y rfl (y_lss rfl rfl) rfl ?_
    refine DL_nil ?_
    refine hK6 _ _ ?_
    refine T_cond rfl (fun h21 => ?_) (fun h21 => ?_)
    ·
      refine T_seq fun K7 hK7 => ?_
      refine T_region ?_
      refine L_y (y_assign rfl) rfl ?_
      refine L_nil ?_
      refine hK7 _ _ ?_
      refine T_ret ?_
      refine ur ?_
      refine ret1 rfl rfl ?_
      exact ⟨_, rfl, S1.like0, by first | (rw [if_pos (by omega)]; done) | (rw [if_neg (by omega), if_pos (by omega)]; done) | (rw [if_neg (by omega), if_neg (by omega)]; done)⟩
    ·
      refine T_skip ?_
      refine hK5 _ _ ?_
      refine T_seq fun K8 hK8 => ?_
      refine T_region ?_
      refine L_y (y_assign rfl) rfl ?_
      refine L_nil ?_
      refine hK8 _ _ ?_
      refine T_ret ?_
      refine ur ?_
      refine ret1 rfl rfl ?_
      exact ⟨_, rfl, S1.like0, by first | (rw [if_pos (by omega)]; done) | (rw [if_neg (by omega), if_pos (by omega)]; done) | (rw [if_neg (by omega), if_neg (by omega)]; done)⟩


set_option maxRecDepth 100000 in
theorem xnumber (g : Nat) (A : Option Addr) (n c : Nat) (l : List UInt8) (p q : Nat) (w0 : World) (hw : (xr g A n c p q).holds w0) (hb : Rs w0 1 A n c (bL l)) (hp : p ≤ l.length) (hn62 : n ≤ 140737488355300) :
    Calls Try.prog 46 #[.pointer (some ⟨g, 0, none⟩)] w0 fun e w' => ∃ u, e = .returned u ∧ Like w0 w' ∧ u = .tuple #[.int .u64 ((nuN l p).1 : Int), .int .i64 ((nuN l p).2.1 : Int), .int .i64 ((nuN l p).2.2 : Int)] := by
  refine enter1 (env := [(0, .pointer (some ⟨g, 0, none⟩))]) [.pointer (some ⟨g, 0, none⟩)] Try.func46 rfl Try.ntmps46 rfl rfl ?_
  have hnl := hb.lenb; have hcap := hb.cap; have hmx := hb.max; have S0 := St.start w0 noM
  refine T_seq fun K1 hK1 => ?_
  refine T_region ?_
  refine L_y (y_assign rfl) rfl ?_
  refine L_y (y_assign rfl) rfl ?_
  refine L_y (y_assign rfl) rfl ?_
  refine L_nil ?_
  refine hK1 _ _ ?_
  refine T_seq fun K2 hK2 => ?_
  refine T_region ?_
  refine L_y (y_assign rfl) rfl ?_
  refine L_y (y_assign rfl) rfl ?_
  refine L_nil ?_
  refine hK2 _ _ ?_
  refine T_seq fun K3 hK3 => ?_
  refine T_seq fun K4 hK4 => ?_
  refine T_region ?_
  refine L_y (y_assign rfl) rfl ?_
  refine L_nil ?_
  refine hK4 _ _ ?_
  refine T_block ?_
  refine T_loop2 [(0, _)] (fun (k : Nat) (a : Nat) => [(5, .int .u64 (a : Int)), (6, .int .u64 ((128 ^ k : Nat) : Int)), (7, .int .i64 (k : Int))]) (fun (k : Nat) (a : Nat) => 10 - k) (fun (k : Nat) (a : Nat) (w : World) => ((k ≤ 9 ∧ p + k ≤ l.length ∧ a < 128 ^ k) ∧ numF (l.drop (p + k)) k a = numF (l.drop p) 0 0) ∧ St w0 noM [] w) 0 0 (Sub.cons rfl (by first | rfl | exact congrArg (Value.int _) (by first | omega | decide)) (Sub.cons rfl (by first | rfl | exact congrArg (Value.int _) (by first | omega | decide)) (Sub.cons rfl (by first | rfl | exact congrArg (Value.int _) (by first | omega | decide)) (Sub.nil _)))) (Sub.cons rfl rfl (Sub.nil _)) ?_ ?_
  ·
    exact ⟨⟨⟨by omega, by omega, by decide⟩, rfl⟩, S0⟩
  ·
    intro k a w1 hrel
    obtain ⟨⟨⟨hk9, hpk, ha⟩, hN⟩, S1⟩ := hrel
    refine T_seq fun K5 hK5 => ?_
    refine T_seq fun K6 hK6 => ?_
    refine T_region ?_
    refine L_y (y_move rfl) rfl ?_
    refine L_y (y_lss rfl rfl) rfl ?_
    refine L_nil ?_
    refine hK6 _ _ ?_
    refine T_cond rfl (fun h10 => ?_) (fun h10 => ?_)
    ·
      refine T_skip ?_
      refine hK5 _ _ ?_
      refine T_seq fun K7 hK7 => ?_
      refine T_block ?_
      refine T_seq fun K8 hK8 => ?_
      refine T_seq fun K9 hK9 => ?_
      refine T_drawnL [(0, true), (1, true), (2, true), (3, true), (4, true), (5, true), (6, true), (7, true), (8, true), (9, true), (10, true), (11, true)] hmix (by kernel_rfl) fun w2 l2 => ?_
      have S2 := S1.like l2
      refine DL_y rfl (y_move rfl) rfl ?_
      refine DL_y rfl (y_nilp rfl) rfl ?_
      refine DL_y rfl (y_fieldA 1 Try.underlying48 rfl sz3 rfl rfl rfl) rfl ?_
      refine DL_y rfl (y_ldc Try.underlying3 rfl rfl (((S2.rdB hw).cell _).trans (show (#[.slice A n c, .int .i64 (p : Int), .int .i64 (q : Int)] : Array Value)[1]? = some (Value.int .i64 (p : Int)) from rfl))) rfl ?_
      refine DL_y rfl (y_move rfl) rfl ?_
      refine DL_y rfl (y_add rfl rfl (i64w (by omega))) rfl ?_
      refine DL_y rfl (y_move rfl) rfl ?_
      refine DL_y rfl (y_nilp rfl) rfl ?_
      refine DL_y rfl (y_fieldA 0 Try.underlying48 rfl sz25 rfl rfl rfl) rfl ?_
      refine DL_y rfl (y_ldc Try.underlying25 rfl rfl (((S2.rdB hw).cell _).trans (show (#[.slice A n c, .int .i64 (p : Int), .int .i64 (q : Int)] : Array Value)[0]? = some (Value.slice A n c) from rfl))) rfl ?_
      refine DL_y rfl (y_len Try.underlying25 rfl) rfl ?_
      refine DL_y rfl (y_geq rfl rfl) rfl ?_
      refine DL_nil ?_
      refine hK9 _ _ ?_
      refine T_cond rfl (fun h24 => ?_) (fun h24 => ?_)
      ·
        have hN2 : numF (l.drop p) 0 0 = (0, k, 10) := by rw [← hN, List.drop_eq_nil_of_le (by omega)]; rfl
        refine T_seq fun K10 hK10 => ?_
        refine T_region ?_
        refine L_y (y_assign rfl) rfl ?_
        refine L_y (y_assign rfl) rfl ?_
        refine L_y (y_assign rfl) rfl ?_
        refine L_nil ?_
        refine hK10 _ _ ?_
        refine T_ret ?_
        refine ur ?_
        refine ret3 rfl rfl rfl rfl ?_
        first | exact ⟨_, rfl, S2.like0, by rw [nuN, hN2, if_neg (by simp)]; rfl⟩ | exact ⟨_, rfl, S2.like0, by rw [nuN, hN2, if_pos (by simp)]; rfl⟩
      ·
        obtain ⟨x, hx, hdr⟩ := at_one (show p + k < l.length by omega)
        have hxl := x.toNat_lt
        refine T_skip ?_
        refine hK8 _ _ ?_
        refine T_seq fun K11 hK11 => ?_
        refine T_drawnL [(0, true), (1, true), (2, true), (3, true), (4, true), (5, true), (6, true), (7, true), (8, true), (9, true), (10, true), (11, true), (12, true), (13, true)] hmix (by kernel_rfl) fun w3 l3 => ?_
        have S3 := S2.like l3
        refine DL_y rfl (y_move rfl) rfl ?_
        refine DL_y rfl (y_nilp rfl) rfl ?_
        refine DL_y rfl (y_fieldA 0 Try.underlying48 rfl sz25 rfl rfl rfl) rfl ?_
        refine DL_y rfl (y_ldc Try.underlying25 rfl rfl (((S3.rdB hw).cell _).trans (show (#[.slice A n c, .int .i64 (p : Int), .int .i64 (q : Int)] : Array Value)[0]? = some (Value.slice A n c) from rfl))) rfl ?_
        refine DL_y rfl (y_move rfl) rfl ?_
        refine DL_y rfl (y_nilp rfl) rfl ?_
        refine DL_y rfl (y_fieldA 1 Try.underlying48 rfl sz3 rfl rfl rfl) rfl ?_
        refine DL_y rfl (y_ldc Try.underlying3 rfl rfl (((S3.rdB hw).cell _).trans (show (#[.slice A n c, .int .i64 (p : Int), .int .i64 (q : Int)] : Array Value)[1]? = some (Value.int .i64 (p : Int)) from rfl))) rfl ?_
        refine DL_y rfl (y_move rfl) rfl ?_
        refine DL_y rfl (y_add rfl rfl (i64w (by omega))) rfl ?_
        refine DL_y rfl (y_idx Try.underlying25 sz5 rfl rfl (S3.rd hb) inferInstance (by omega)) rfl ?_
        refine DL_y rfl (y_ldr Try.underlying5 rfl rfl (S3.rd hb) (bL_getX hx)) rfl ?_
        refine DL_y rfl (y_conv is5 Try.underlying27 rfl (u64w (by omega))) rfl ?_
        refine DL_y rfl (y_assign rfl) rfl ?_
        refine DL_nil ?_
        refine hK11 _ _ ?_
        refine T_seq fun K12 hK12 => ?_
        refine T_seq fun K13 hK13 => ?_
        refine T_region ?_
        refine L_y (y_move rfl) rfl ?_
        refine L_y (y_eql rfl rfl) rfl ?_
        refine L_y (y_move rfl) rfl ?_
        refine L_split 40 rfl (fun h40 => ?_) (fun h40 => ?_)
        ·
          refine L_gyes rfl rfl ?_
          refine L_y (y_move rfl) rfl ?_
          refine L_gyes rfl rfl ?_
          refine L_y (y_gtr rfl rfl) rfl ?_
          refine L_y (y_pk rfl rfl) rfl ?_
          refine L_y (y_move rfl) rfl ?_
          refine L_split 44 rfl (fun h44 => ?_) (fun h44 => ?_)
          ·
            refine L_gno rfl rfl rfl ?_
            refine L_gno rfl rfl rfl ?_
            refine L_gno rfl rfl rfl ?_
            refine L_gnu rfl rfl rfl ?_
            refine L_gnu rfl rfl rfl ?_
            refine L_gno rfl rfl rfl ?_
            refine L_y (y_pk rfl rfl) rfl ?_
            refine L_nil ?_
            refine hK13 _ _ ?_
            refine T_true rfl ?_
            refine T_seq fun K14 hK14 => ?_
            have hF : ((k = 9 ∧ 1 < x.toNat) ∨ (0 < k ∧ x.toNat = 0)) := by omega
            have hN2 : numF (l.drop p) 0 0 = (0, k + 1, 12) := by rw [← hN, hdr, numF, if_pos hF]
            refine T_region ?_
            refine L_y (y_assign rfl) rfl ?_
            refine L_y (y_assign rfl) rfl ?_
            refine L_y (y_assign rfl) rfl ?_
            refine L_nil ?_
            refine hK14 _ _ ?_
            refine T_ret ?_
            refine ur ?_
            refine ret3 rfl rfl rfl rfl ?_
            first | exact ⟨_, rfl, S3.like0, by rw [nuN, hN2, if_neg (by simp)]; rfl⟩ | exact ⟨_, rfl, S3.like0, by rw [nuN, hN2, if_pos (by simp)]; rfl⟩
          ·
            refine L_gyes rfl rfl ?_
            refine L_y (y_move rfl) rfl ?_
            refine L_gyes rfl rfl ?_
            refine L_y (y_gtr rfl rfl) rfl ?_
            refine L_gyes rfl rfl ?_
            refine L_y (y_move rfl) rfl ?_
            refine L_split 47 rfl (fun h47 => ?_) (fun h47 => ?_)
            ·
              refine L_gyes rfl rfl ?_
              refine L_y (y_move rfl) rfl ?_
              refine L_gyes rfl rfl ?_
              refine L_y (y_eql rfl rfl) rfl ?_
              refine L_gyes rfl rfl ?_
              refine L_y (y_pk rfl rfl) rfl ?_
              refine L_y (y_pk rfl rfl) rfl ?_
              refine L_nil ?_
              refine hK13 _ _ ?_
              refine T_cond rfl (fun h51 => ?_) (fun h51 => ?_)
              ·
                refine T_seq fun K15 hK15 => ?_
                have hF : ((k = 9 ∧ 1 < x.toNat) ∨ (0 < k ∧ x.toNat = 0)) := by omega
                have hN2 : numF (l.drop p) 0 0 = (0, k + 1, 12) := by rw [← hN, hdr, numF, if_pos hF]
                refine T_region ?_
                refine L_y (y_assign rfl) rfl ?_
                refine L_y (y_assign rfl) rfl ?_
                refine L_y (y_assign rfl) rfl ?_
                refine L_nil ?_
                refine hK15 _ _ ?_
                refine T_ret ?_
                refine ur ?_
                refine ret3 rfl rfl rfl rfl ?_
                first | exact ⟨_, rfl, S3.like0, by rw [nuN, hN2, if_neg (by simp)]; rfl⟩ | exact ⟨_, rfl, S3.like0, by rw [nuN, hN2, if_pos (by simp)]; rfl⟩
              ·
                refine T_skip ?_
                refine hK12 _ _ ?_
                refine T_seq fun K16 hK16 => ?_
                have hF : ¬ ((k = 9 ∧ 1 < x.toNat) ∨ (0 < k ∧ x.toNat = 0)) := by omega
                have hnm := num_lt hk9 ha (x := x.toNat) (by omega) (fun h => by omega)
                refine T_region ?_
                refine L_y (y_move rfl) rfl ?_
                refine L_y (y_move rfl) rfl ?_
                refine L_y (y_rem rfl rfl (by omega) (remI (by omega))) rfl ?_
                refine L_y (y_move rfl) rfl ?_
                refine L_y (y_mul rfl rfl (mul7 _ k hnm.1)) rfl ?_
                refine L_y (y_add rfl rfl (show _ = ((a + x.toNat % 128 * 128 ^ k : Nat) : Int) by rw [IntKind.wrap_u64]; omega)) rfl ?_
                refine L_y (y_assign rfl) rfl ?_
                refine L_nil ?_
                refine hK16 _ _ ?_
                refine T_seq fun K17 hK17 => ?_
                refine T_seq fun K18 hK18 => ?_
                refine T_region ?_
                refine L_y (y_move rfl) rfl ?_
                refine L_y (y_lss rfl rfl) rfl ?_
                refine L_nil ?_
                refine hK18 _ _ ?_
                refine T_cond rfl (fun h59 => ?_) (fun h59 => ?_)
                ·
                  have hN2 : numF (l.drop p) 0 0 = (a + x.toNat % 128 * 128 ^ k, k + 1, 0) := by rw [← hN, hdr, numF, if_neg hF, if_pos (by omega)]
                  refine T_seq fun K19 hK19 => ?_
                  refine T_region ?_
                  refine L_y (y_move rfl) rfl ?_
                  refine L_y (y_move rfl) rfl ?_
                  refine L_y (y_add rfl rfl (i64w (by omega))) rfl ?_
                  refine L_y (y_assign rfl) rfl ?_
                  refine L_y (y_assign rfl) rfl ?_
                  refine L_y (y_assign rfl) rfl ?_
                  refine L_nil ?_
                  refine hK19 _ _ ?_
                  refine T_ret ?_
                  refine ur ?_
                  refine ret3 rfl rfl rfl rfl ?_
                  first | exact ⟨_, rfl, S3.like0, by rw [nuN, hN2, if_neg (by simp)]; rfl⟩ | exact ⟨_, rfl, S3.like0, by rw [nuN, hN2, if_pos (by simp)]; rfl⟩
                ·
                  refine T_skip ?_
                  refine hK17 _ _ ?_
                  have hk8 : k ≤ 8 := by omega
                  refine T_region ?_
                  refine L_y (y_move rfl) rfl ?_
                  refine L_y (y_mul rfl rfl (pow7s k hk8)) rfl ?_
                  refine L_y (y_assign rfl) rfl ?_
                  refine L_nil ?_
                  refine hK7 _ _ ?_
                  refine T_region ?_
                  refine L_y (y_move rfl) rfl ?_
                  refine L_y (y_add rfl rfl (i64w (by omega))) rfl ?_
                  refine L_y (y_assign rfl) rfl ?_
                  refine L_nil ?_
                  refine ⟨k + 1, a + x.toNat % 128 * 128 ^ k, by omega, ⟨⟨⟨by omega, by omega, num_next ha⟩, by rw [← hN, hdr, numF, if_neg hF, if_neg (by omega)]; rfl⟩, S3⟩, ?_⟩
                  exact (Sub.cons rfl (by first | rfl | exact congrArg (Value.int _) (by omega)) (Sub.cons rfl (by first | rfl | exact congrArg (Value.int _) (by omega)) (Sub.cons rfl (by first | rfl | exact congrArg (Value.int _) (by omega)) (Sub.cons rfl rfl (Sub.nil _)))))
            ·
              refine L_gno rfl rfl rfl ?_
              refine L_gno rfl rfl rfl ?_
              refine L_gyes rfl rfl ?_
              refine L_y (y_pk rfl rfl) rfl ?_
              refine L_y (y_pk rfl rfl) rfl ?_
              refine L_nil ?_
              refine hK13 _ _ ?_
              refine T_false rfl ?_
              refine T_skip ?_
              refine hK12 _ _ ?_
              refine T_seq fun K20 hK20 => ?_
              have hF : ¬ ((k = 9 ∧ 1 < x.toNat) ∨ (0 < k ∧ x.toNat = 0)) := by omega
              have hnm := num_lt hk9 ha (x := x.toNat) (by omega) (fun h => by omega)
              refine T_region ?_
              refine L_y (y_move rfl) rfl ?_
              refine L_y (y_move rfl) rfl ?_
              refine L_y (y_rem rfl rfl (by omega) (remI (by omega))) rfl ?_
              refine L_y (y_move rfl) rfl ?_
              refine L_y (y_mul rfl rfl (mul7 _ k hnm.1)) rfl ?_
              refine L_y (y_add rfl rfl (show _ = ((a + x.toNat % 128 * 128 ^ k : Nat) : Int) by rw [IntKind.wrap_u64]; omega)) rfl ?_
              refine L_y (y_assign rfl) rfl ?_
              refine L_nil ?_
              refine hK20 _ _ ?_
              refine T_seq fun K21 hK21 => ?_
              refine T_seq fun K22 hK22 => ?_
              refine T_region ?_
              refine L_y (y_move rfl) rfl ?_
              refine L_y (y_lss rfl rfl) rfl ?_
              refine L_nil ?_
              refine hK22 _ _ ?_
              refine T_cond rfl (fun h59 => ?_) (fun h59 => ?_)
              ·
                have hN2 : numF (l.drop p) 0 0 = (a + x.toNat % 128 * 128 ^ k, k + 1, 0) := by rw [← hN, hdr, numF, if_neg hF, if_pos (by omega)]
                refine T_seq fun K23 hK23 => ?_
                refine T_region ?_
                refine L_y (y_move rfl) rfl ?_
                refine L_y (y_move rfl) rfl ?_
                refine L_y (y_add rfl rfl (i64w (by omega))) rfl ?_
                refine L_y (y_assign rfl) rfl ?_
                refine L_y (y_assign rfl) rfl ?_
                refine L_y (y_assign rfl) rfl ?_
                refine L_nil ?_
                refine hK23 _ _ ?_
                refine T_ret ?_
                refine ur ?_
                refine ret3 rfl rfl rfl rfl ?_
                first | exact ⟨_, rfl, S3.like0, by rw [nuN, hN2, if_neg (by simp)]; rfl⟩ | exact ⟨_, rfl, S3.like0, by rw [nuN, hN2, if_pos (by simp)]; rfl⟩
              ·
                refine T_skip ?_
                refine hK21 _ _ ?_
                have hk8 : k ≤ 8 := by omega
                refine T_region ?_
                refine L_y (y_move rfl) rfl ?_
                refine L_y (y_mul rfl rfl (pow7s k hk8)) rfl ?_
                refine L_y (y_assign rfl) rfl ?_
                refine L_nil ?_
                refine hK7 _ _ ?_
                refine T_region ?_
                refine L_y (y_move rfl) rfl ?_
                refine L_y (y_add rfl rfl (i64w (by omega))) rfl ?_
                refine L_y (y_assign rfl) rfl ?_
                refine L_nil ?_
                refine ⟨k + 1, a + x.toNat % 128 * 128 ^ k, by omega, ⟨⟨⟨by omega, by omega, num_next ha⟩, by rw [← hN, hdr, numF, if_neg hF, if_neg (by omega)]; rfl⟩, S3⟩, ?_⟩
                exact (Sub.cons rfl (by first | rfl | exact congrArg (Value.int _) (by omega)) (Sub.cons rfl (by first | rfl | exact congrArg (Value.int _) (by omega)) (Sub.cons rfl (by first | rfl | exact congrArg (Value.int _) (by omega)) (Sub.cons rfl rfl (Sub.nil _)))))
        ·
          refine L_gno rfl rfl rfl ?_
          refine L_gno rfl rfl rfl ?_
          refine L_y (y_pk rfl rfl) rfl ?_
          refine L_y (y_move rfl) rfl ?_
          refine L_gyes rfl rfl ?_
          refine L_y (y_move rfl) rfl ?_
          refine L_gyes rfl rfl ?_
          refine L_y (y_gtr rfl rfl) rfl ?_
          refine L_gyes rfl rfl ?_
          refine L_y (y_move rfl) rfl ?_
          refine L_split 47 rfl (fun h47 => ?_) (fun h47 => ?_)
          ·
            refine L_gyes rfl rfl ?_
            refine L_y (y_move rfl) rfl ?_
            refine L_gyes rfl rfl ?_
            refine L_y (y_eql rfl rfl) rfl ?_
            refine L_gyes rfl rfl ?_
            refine L_y (y_pk rfl rfl) rfl ?_
            refine L_y (y_pk rfl rfl) rfl ?_
            refine L_nil ?_
            refine hK13 _ _ ?_
            refine T_cond rfl (fun h51 => ?_) (fun h51 => ?_)
            ·
              refine T_seq fun K24 hK24 => ?_
              have hF : ((k = 9 ∧ 1 < x.toNat) ∨ (0 < k ∧ x.toNat = 0)) := by omega
              have hN2 : numF (l.drop p) 0 0 = (0, k + 1, 12) := by rw [← hN, hdr, numF, if_pos hF]
              refine T_region ?_
              refine L_y (y_assign rfl) rfl ?_
              refine L_y (y_assign rfl) rfl ?_
              refine L_y (y_assign rfl) rfl ?_
              refine L_nil ?_
              refine hK24 _ _ ?_
              refine T_ret ?_
              refine ur ?_
              refine ret3 rfl rfl rfl rfl ?_
              first | exact ⟨_, rfl, S3.like0, by rw [nuN, hN2, if_neg (by simp)]; rfl⟩ | exact ⟨_, rfl, S3.like0, by rw [nuN, hN2, if_pos (by simp)]; rfl⟩
            ·
              refine T_skip ?_
              refine hK12 _ _ ?_
              refine T_seq fun K25 hK25 => ?_
              have hF : ¬ ((k = 9 ∧ 1 < x.toNat) ∨ (0 < k ∧ x.toNat = 0)) := by omega
              have hnm := num_lt hk9 ha (x := x.toNat) (by omega) (fun h => by omega)
              refine T_region ?_
              refine L_y (y_move rfl) rfl ?_
              refine L_y (y_move rfl) rfl ?_
              refine L_y (y_rem rfl rfl (by omega) (remI (by omega))) rfl ?_
              refine L_y (y_move rfl) rfl ?_
              refine L_y (y_mul rfl rfl (mul7 _ k hnm.1)) rfl ?_
              refine L_y (y_add rfl rfl (show _ = ((a + x.toNat % 128 * 128 ^ k : Nat) : Int) by rw [IntKind.wrap_u64]; omega)) rfl ?_
              refine L_y (y_assign rfl) rfl ?_
              refine L_nil ?_
              refine hK25 _ _ ?_
              refine T_seq fun K26 hK26 => ?_
              refine T_seq fun K27 hK27 => ?_
              refine T_region ?_
              refine L_y (y_move rfl) rfl ?_
              refine L_y (y_lss rfl rfl) rfl ?_
              refine L_nil ?_
              refine hK27 _ _ ?_
              refine T_cond rfl (fun h59 => ?_) (fun h59 => ?_)
              ·
                have hN2 : numF (l.drop p) 0 0 = (a + x.toNat % 128 * 128 ^ k, k + 1, 0) := by rw [← hN, hdr, numF, if_neg hF, if_pos (by omega)]
                refine T_seq fun K28 hK28 => ?_
                refine T_region ?_
                refine L_y (y_move rfl) rfl ?_
                refine L_y (y_move rfl) rfl ?_
                refine L_y (y_add rfl rfl (i64w (by omega))) rfl ?_
                refine L_y (y_assign rfl) rfl ?_
                refine L_y (y_assign rfl) rfl ?_
                refine L_y (y_assign rfl) rfl ?_
                refine L_nil ?_
                refine hK28 _ _ ?_
                refine T_ret ?_
                refine ur ?_
                refine ret3 rfl rfl rfl rfl ?_
                first | exact ⟨_, rfl, S3.like0, by rw [nuN, hN2, if_neg (by simp)]; rfl⟩ | exact ⟨_, rfl, S3.like0, by rw [nuN, hN2, if_pos (by simp)]; rfl⟩
              ·
                refine T_skip ?_
                refine hK26 _ _ ?_
                have hk8 : k ≤ 8 := by omega
                refine T_region ?_
                refine L_y (y_move rfl) rfl ?_
                refine L_y (y_mul rfl rfl (pow7s k hk8)) rfl ?_
                refine L_y (y_assign rfl) rfl ?_
                refine L_nil ?_
                refine hK7 _ _ ?_
                refine T_region ?_
                refine L_y (y_move rfl) rfl ?_
                refine L_y (y_add rfl rfl (i64w (by omega))) rfl ?_
                refine L_y (y_assign rfl) rfl ?_
                refine L_nil ?_
                refine ⟨k + 1, a + x.toNat % 128 * 128 ^ k, by omega, ⟨⟨⟨by omega, by omega, num_next ha⟩, by rw [← hN, hdr, numF, if_neg hF, if_neg (by omega)]; rfl⟩, S3⟩, ?_⟩
                exact (Sub.cons rfl (by first | rfl | exact congrArg (Value.int _) (by omega)) (Sub.cons rfl (by first | rfl | exact congrArg (Value.int _) (by omega)) (Sub.cons rfl (by first | rfl | exact congrArg (Value.int _) (by omega)) (Sub.cons rfl rfl (Sub.nil _)))))
          ·
            refine L_gno rfl rfl rfl ?_
            refine L_gno rfl rfl rfl ?_
            refine L_gyes rfl rfl ?_
            refine L_y (y_pk rfl rfl) rfl ?_
            refine L_y (y_pk rfl rfl) rfl ?_
            refine L_nil ?_
            refine hK13 _ _ ?_
            refine T_false rfl ?_
            refine T_skip ?_
            refine hK12 _ _ ?_
            refine T_seq fun K29 hK29 => ?_
            have hF : ¬ ((k = 9 ∧ 1 < x.toNat) ∨ (0 < k ∧ x.toNat = 0)) := by omega
            have hnm := num_lt hk9 ha (x := x.toNat) (by omega) (fun h => by omega)
            refine T_region ?_
            refine L_y (y_move rfl) rfl ?_
            refine L_y (y_move rfl) rfl ?_
            refine L_y (y_rem rfl rfl (by omega) (remI (by omega))) rfl ?_
            refine L_y (y_move rfl) rfl ?_
            refine L_y (y_mul rfl rfl (mul7 _ k hnm.1)) rfl ?_
            refine L_y (y_add rfl rfl (show _ = ((a + x.toNat % 128 * 128 ^ k : Nat) : Int) by rw [IntKind.wrap_u64]; omega)) rfl ?_
            refine L_y (y_assign rfl) rfl ?_
            refine L_nil ?_
            refine hK29 _ _ ?_
            refine T_seq fun K30 hK30 => ?_
            refine T_seq fun K31 hK31 => ?_
            refine T_region ?_
            refine L_y (y_move rfl) rfl ?_
            refine L_y (y_lss rfl rfl) rfl ?_
            refine L_nil ?_
            refine hK31 _ _ ?_
            refine T_cond rfl (fun h59 => ?_) (fun h59 => ?_)
            ·
              have hN2 : numF (l.drop p) 0 0 = (a + x.toNat % 128 * 128 ^ k, k + 1, 0) := by rw [← hN, hdr, numF, if_neg hF, if_pos (by omega)]
              refine T_seq fun K32 hK32 => ?_
              refine T_region ?_
              refine L_y (y_move rfl) rfl ?_
              refine L_y (y_move rfl) rfl ?_
              refine L_y (y_add rfl rfl (i64w (by omega))) rfl ?_
              refine L_y (y_assign rfl) rfl ?_
              refine L_y (y_assign rfl) rfl ?_
              refine L_y (y_assign rfl) rfl ?_
              refine L_nil ?_
              refine hK32 _ _ ?_
              refine T_ret ?_
              refine ur ?_
              refine ret3 rfl rfl rfl rfl ?_
              first | exact ⟨_, rfl, S3.like0, by rw [nuN, hN2, if_neg (by simp)]; rfl⟩ | exact ⟨_, rfl, S3.like0, by rw [nuN, hN2, if_pos (by simp)]; rfl⟩
            ·
              refine T_skip ?_
              refine hK30 _ _ ?_
              have hk8 : k ≤ 8 := by omega
              refine T_region ?_
              refine L_y (y_move rfl) rfl ?_
              refine L_y (y_mul rfl rfl (pow7s k hk8)) rfl ?_
              refine L_y (y_assign rfl) rfl ?_
              refine L_nil ?_
              refine hK7 _ _ ?_
              refine T_region ?_
              refine L_y (y_move rfl) rfl ?_
              refine L_y (y_add rfl rfl (i64w (by omega))) rfl ?_
              refine L_y (y_assign rfl) rfl ?_
              refine L_nil ?_
              refine ⟨k + 1, a + x.toNat % 128 * 128 ^ k, by omega, ⟨⟨⟨by omega, by omega, num_next ha⟩, by rw [← hN, hdr, numF, if_neg hF, if_neg (by omega)]; rfl⟩, S3⟩, ?_⟩
              exact (Sub.cons rfl (by first | rfl | exact congrArg (Value.int _) (by omega)) (Sub.cons rfl (by first | rfl | exact congrArg (Value.int _) (by omega)) (Sub.cons rfl (by first | rfl | exact congrArg (Value.int _) (by omega)) (Sub.cons rfl rfl (Sub.nil _)))))
    ·
      exfalso; omega


theorem new_of {w0 w : World} {M : Nat → Prop} {rs : List Res} (S : St w0 M rs w) (k : Nat) {s : Res} (hk : rs[k]? = some s) (hM : ∀ i, M i → ¬ s.dom i) : ∀ i, s.dom i → w0.heap.size ≤ i := fun i hi => by
  have h := ((S.res _ (List.mem_of_getElem? hk)).2 i hi).2
  rcases h with h | h
  · exact h
  · exact absurd hi (hM i h)
theorem nu_e (l : List UInt8) (p : Nat) : (nuN l p).2.2 = (numF (l.drop p) 0 0).2.2 := by
  unfold nuN
  split
  · rfl
  · rfl
theorem nu_ok {l : List UInt8} {p : Nat} (h : (numF (l.drop p) 0 0).2.2 = 0) : nuN l p = numF (l.drop p) 0 0 := by rw [nuN, if_pos h]
theorem nu_at (l : List UInt8) (p : Nat) (h : p ≤ l.length) : p + (nuN l p).2.1 ≤ l.length := by
  have := numF_at l p h
  unfold nuN
  split
  · exact this
  · exact h
theorem nu_max (l : List UInt8) (p : Nat) : (nuN l p).1 ≤ 18446744073709551615 := by
  have := numF_max (l.drop p) 0 0 (by omega) (by decide)
  unfold nuN
  split
  · exact this
  · simp
theorem rn_nat (l : List UInt8) (p q k : Nat) : rnL l p q (k : Int) = rwL l p q k ∧ rnP l p q (k : Int) = rwP l p q k ∧ rnE l p q (k : Int) = rwE l p q k :=
  ⟨by rw [rnL, if_neg (by omega), Int.toNat_natCast], by rw [rnP, if_neg (by omega), Int.toNat_natCast], by rw [rnE, if_neg (by omega), Int.toNat_natCast]⟩
theorem rw_dead {l : List UInt8} {p q k : Nat} (h : q ≠ 0) : rwL l p q k = [] ∧ rwP l p q k = p ∧ rwE l p q k = q := ⟨by rw [rwL, if_neg h], by rw [rwP, if_neg h], by rw [rwE, if_neg h]⟩
theorem rn_dead {l : List UInt8} {p q : Nat} {m : Int} (h : q ≠ 0) : rnL l p q m = [] ∧ rnP l p q m = p ∧ rnE l p q m = q := by
  obtain ⟨h1, h2, h3⟩ := rw_dead (l := l) (p := p) (k := m.toNat) h
  refine ⟨?_, ?_, ?_⟩
  · rw [rnL]; split; rfl; exact h1
  · rw [rnP]; split; rfl; exact h2
  · by_cases hm : m < 0; rw [rnE, if_pos hm, if_pos h]; rw [rnE, if_neg hm]; exact h3
theorem rn_neg {l : List UInt8} {p : Nat} {m : Int} (h : m < 0) : rnL l p 0 m = [] ∧ rnP l p 0 m = p ∧ rnE l p 0 m = 3 := ⟨by rw [rnL, if_pos h], by rw [rnP, if_pos h], by rw [rnE, if_pos h]; rfl⟩
theorem rn_no {l : List UInt8} {p k : Nat} (h : ¬ k ≤ l.length - p) : rnL l p 0 (k : Int) = [] ∧ rnP l p 0 (k : Int) = p ∧ rnE l p 0 (k : Int) = 10 := by
  obtain ⟨e1, e2, e3⟩ := rn_nat l p 0 k
  exact ⟨by rw [e1, rwL, if_pos rfl, tkL_no h], by rw [e2, rwP, if_pos rfl, tkP, if_neg h], by rw [e3, rwE, if_pos rfl, tkE_no h]⟩
theorem rn_ok {l : List UInt8} {p k : Nat} (h : k ≤ l.length - p) : rnL l p 0 (k : Int) = (l.drop p).take k ∧ rnP l p 0 (k : Int) = p + k ∧ rnE l p 0 (k : Int) = 0 := by
  obtain ⟨e1, e2, e3⟩ := rn_nat l p 0 k
  exact ⟨by rw [e1, rwL, if_pos rfl, tkL, if_pos h], by rw [e2, rwP, if_pos rfl, tkP, if_pos h], by rw [e3, rwE, if_pos rfl, tkE_ok h]⟩


set_option maxRecDepth 100000 in
theorem xraw (g : Nat) (A : Option Addr) (n c : Nat) (l : List UInt8) (p q : Nat) (m : Int) (w0 : World) (hw : (xr g A n c p q).holds w0) (hb : Rs w0 1 A n c (bL l)) (hp : p ≤ l.length) (hn62 : n ≤ 140737488355300) (hbg : ∀ ad, 0 < n → A = some ad → ad.block ≠ g) (hm : m ≤ 9223372036854775807) :
    Calls Try.prog 43 #[.pointer (some ⟨g, 0, none⟩), .int .i64 m] w0 fun e w' => ∃ u, e = .returned u ∧ Turned w0 w' (xr g A n c p q) (xr g A n c (rnP l p q m) (rnE l p q m)) ∧ ∃ B c2, u = .slice B (rnL l p q m).length c2 ∧ (row 5 1 B (rnL l p q m).length c2 (bL (rnL l p q m))).holds w' ∧ ∀ i, (row 5 1 B (rnL l p q m).length c2 (bL (rnL l p q m))).dom i → w0.heap.size ≤ i := by
  refine enter1 (env := [(0, .pointer (some ⟨g, 0, none⟩)), (1, .int .i64 m)]) [.pointer (some ⟨g, 0, none⟩), .int .i64 m] Try.func43 rfl Try.ntmps43 rfl rfl ?_
  have hnl := hb.lenb; have hcap := hb.cap; have hmx := hb.max; have S0 := St.borrow1 (blk g 48 #[.slice A n c, .int .i64 (p : Int), .int .i64 (q : Int)]) hw (xr_lt hw)
  refine T_seq fun K1 hK1 => ?_
  refine T_region ?_
  refine L_y (y_assign rfl) rfl ?_
  refine L_nil ?_
  refine hK1 _ _ ?_
  refine T_seq fun K2 hK2 => ?_
  refine T_seq fun K3 hK3 => ?_
  refine T_region ?_
  refine L_y (y_move rfl) rfl ?_
  refine L_y (y_nilp rfl) rfl ?_
  refine L_y (y_fieldA 2 Try.underlying48 rfl sz3 rfl rfl rfl) rfl ?_
  refine L_y (y_ldc Try.underlying3 rfl rfl (((S0.blk 0 rfl).cell _).trans (by rfl))) rfl ?_
  refine L_y (y_neq rfl rfl) rfl ?_
  refine L_nil ?_
  refine hK3 _ _ ?_
  refine T_cond rfl (fun h10 => ?_) (fun h10 => ?_)
  ·
    refine T_seq fun K4 hK4 => ?_
    refine T_region ?_
    refine L_y (y_assign rfl) rfl ?_
    refine L_nil ?_
    refine hK4 _ _ ?_
    refine T_ret ?_
    refine ur ?_
    refine ret1 rfl rfl ?_
    obtain ⟨e1, e2, e3⟩ := rn_dead (l := l) (p := p) (m := m) (show q ≠ 0 by omega)
    exact ⟨_, rfl, by rw [e2, e3]; exact xr_of (S0.turned1 0 rfl) rfl, none, 0, by rw [e1]; rfl, by rw [e1]; exact ⟨by simp [bL], .inl ⟨rfl, rfl⟩⟩, fun i hi => by rw [e1] at hi; simp [row, Value.ownBlock] at hi⟩
  ·
    have hq : q = 0 := by omega
    subst hq
    refine T_skip ?_
    refine hK2 _ _ ?_
    refine T_seq fun K5 hK5 => ?_
    refine T_seq fun K6 hK6 => ?_
    refine T_region ?_
    refine L_y (y_move rfl) rfl ?_
    refine L_y (y_lss rfl rfl) rfl ?_
    refine L_nil ?_
    refine hK6 _ _ ?_
    refine T_cond rfl (fun h12 => ?_) (fun h12 => ?_)
    ·
      refine T_seq fun K7 hK7 => ?_
      refine T_region ?_
      refine L_y (y_move rfl) rfl ?_
      refine L_y (y_nilp rfl) rfl ?_
      refine L_y (y_fieldA 2 Try.underlying48 rfl sz3 rfl rfl rfl) rfl ?_
      refine L_o (o_st1 S0 0 rfl rfl rfl rfl sz3 (by simp; done) fun w1 S1 => ?_)
      refine L_nil ?_
      refine hK7 _ _ ?_
      refine T_seq fun K8 hK8 => ?_
      refine T_region ?_
      refine L_y (y_assign rfl) rfl ?_
      refine L_nil ?_
      refine hK8 _ _ ?_
      refine T_ret ?_
      refine ur ?_
      refine ret1 rfl rfl ?_
      obtain ⟨e1, e2, e3⟩ := rn_neg (l := l) (p := p) (m := m) (by omega)
      exact ⟨_, rfl, by rw [e2, e3]; exact xr_of (S1.turned1 0 rfl) rfl, none, 0, by rw [e1]; rfl, by rw [e1]; exact ⟨by simp [bL], .inl ⟨rfl, rfl⟩⟩, fun i hi => by rw [e1] at hi; simp [row, Value.ownBlock] at hi⟩
    ·
      obtain ⟨k, rfl⟩ : ∃ k : Nat, m = (k : Int) := ⟨m.toNat, by omega⟩
      refine T_skip ?_
      refine hK5 _ _ ?_
      refine T_seq fun K9 hK9 => ?_
      refine T_seq fun K10 hK10 => ?_
      refine T_drawnL [(0, true), (1, true), (2, true), (3, true), (4, true), (5, true), (6, true), (7, true), (8, true), (9, true), (10, true), (11, true)] hmix (by kernel_rfl) fun w2 l2 => ?_
      have S2 := S0.like l2
      refine DL_y rfl (y_move rfl) rfl ?_
      refine DL_y rfl (y_move rfl) rfl ?_
      refine DL_y rfl (y_nilp rfl) rfl ?_
      refine DL_y rfl (y_fieldA 0 Try.underlying48 rfl sz25 rfl rfl rfl) rfl ?_
      refine DL_y rfl (y_ldc Try.underlying25 rfl rfl (((S2.blk 0 rfl).cell _).trans (by rfl))) rfl ?_
      refine DL_y rfl (y_len Try.underlying25 rfl) rfl ?_
      refine DL_y rfl (y_move rfl) rfl ?_
      refine DL_y rfl (y_nilp rfl) rfl ?_
      refine DL_y rfl (y_fieldA 1 Try.underlying48 rfl sz3 rfl rfl rfl) rfl ?_
      refine DL_y rfl (y_ldc Try.underlying3 rfl rfl (((S2.blk 0 rfl).cell _).trans (by rfl))) rfl ?_
      refine DL_y rfl (y_sub rfl rfl (i64w (by omega))) rfl ?_
      refine DL_y rfl (y_gtr rfl rfl) rfl ?_
      refine DL_nil ?_
      refine hK10 _ _ ?_
      refine T_cond rfl (fun h27 => ?_) (fun h27 => ?_)
      ·
        refine T_seq fun K11 hK11 => ?_
        refine T_region ?_
        refine L_y (y_move rfl) rfl ?_
        refine L_y (y_nilp rfl) rfl ?_
        refine L_y (y_fieldA 2 Try.underlying48 rfl sz3 rfl rfl rfl) rfl ?_
        refine L_o (o_st1 S2 0 rfl rfl rfl rfl sz3 (by simp; done) fun w3 S3 => ?_)
        refine L_nil ?_
        refine hK11 _ _ ?_
        refine T_seq fun K12 hK12 => ?_
        refine T_region ?_
        refine L_y (y_assign rfl) rfl ?_
        refine L_nil ?_
        refine hK12 _ _ ?_
        refine T_ret ?_
        refine ur ?_
        refine ret1 rfl rfl ?_
        obtain ⟨e1, e2, e3⟩ := rn_no (l := l) (p := p) (k := k) (by omega)
        exact ⟨_, rfl, by rw [e2, e3]; exact xr_of (S3.turned1 0 rfl) rfl, none, 0, by rw [e1]; rfl, by rw [e1]; exact ⟨by simp [bL], .inl ⟨rfl, rfl⟩⟩, fun i hi => by rw [e1] at hi; simp [row, Value.ownBlock] at hi⟩
      ·
        refine T_skip ?_
        refine hK9 _ _ ?_
        refine T_seq fun K13 hK13 => ?_
        refine T_region ?_
        have S4 := S2.nilrow 5 1
        refine L_y (y_assign rfl) rfl ?_
        refine L_nil ?_
        refine hK13 _ _ ?_
        refine T_seq fun K14 hK14 => ?_
        refine T_tail 16 hmix (by kernel_rfl) fun w5 l5 K15 hK15 => ?_
        have S5 := S4.like l5
        refine HL_y (y_move rfl) rfl ?_
        refine HL_y (y_move rfl) rfl ?_
        refine HL_y (y_nilp rfl) rfl ?_
        refine HL_y (y_fieldA 0 Try.underlying48 rfl sz25 rfl rfl rfl) rfl ?_
        refine HL_y (y_ldc Try.underlying25 rfl rfl (((S5.blk 0 rfl).cell _).trans (by rfl))) rfl ?_
        refine HL_y (y_move rfl) rfl ?_
        refine HL_y (y_nilp rfl) rfl ?_
        refine HL_y (y_fieldA 1 Try.underlying48 rfl sz3 rfl rfl rfl) rfl ?_
        refine HL_y (y_ldc Try.underlying3 rfl rfl (((S5.blk 0 rfl).cell _).trans (by rfl))) rfl ?_
        refine HL_y (y_move rfl) rfl ?_
        refine HL_y (y_nilp rfl) rfl ?_
        refine HL_y (y_fieldA 1 Try.underlying48 rfl sz3 rfl rfl rfl) rfl ?_
        refine HL_y (y_ldc Try.underlying3 rfl rfl (((S5.blk 0 rfl).cell _).trans (by rfl))) rfl ?_
        refine HL_y (y_move rfl) rfl ?_
        refine HL_y (y_add rfl rfl (i64w (by omega))) rfl ?_
        refine HL_y (y_slice Try.underlying25 sz5 rfl rfl rfl inferInstance inferInstance (by omega) (by omega)) rfl ?_
        refine HL_nil ?_
        refine hK15 _ ?_
        refine L_o (o_app te25 S5 1 rfl rfl rfl (((S5.rdM hb hbg).cutb (l := p) (u := p + k) (by omega) (by omega))) (bL_one _) rfl (by omega) (by omega) fun A6 c6 w6 S6 => ?_)
        refine L_y (y_assign rfl) rfl ?_
        refine L_nil ?_
        refine hK14 _ _ ?_
        refine T_seq fun K16 hK16 => ?_
        refine T_region ?_
        refine L_y (y_move rfl) rfl ?_
        refine L_y (y_move rfl) rfl ?_
        refine L_y (y_nilp rfl) rfl ?_
        refine L_y (y_fieldA 1 Try.underlying48 rfl sz3 rfl rfl rfl) rfl ?_
        refine L_y (y_ldc Try.underlying3 rfl rfl (((S6.blk 0 rfl).cell _).trans (by rfl))) rfl ?_
        refine L_y (y_move rfl) rfl ?_
        refine L_y (y_add rfl rfl (i64w (by omega))) rfl ?_
        refine L_y (y_nilp rfl) rfl ?_
        refine L_y (y_fieldA 1 Try.underlying48 rfl sz3 rfl rfl rfl) rfl ?_
        refine L_o (o_st1 S6 0 rfl rfl rfl rfl sz3 (by simp; done) fun w7 S7 => ?_)
        refine L_nil ?_
        refine hK16 _ _ ?_
        refine T_seq fun K17 hK17 => ?_
        refine T_region ?_
        refine L_y (y_move rfl) rfl ?_
        refine L_y (y_assign rfl) rfl ?_
        refine L_nil ?_
        refine hK17 _ _ ?_
        refine T_ret ?_
        refine ur ?_
        refine ret1 rfl rfl ?_
        obtain ⟨e1, e2, e3⟩ := rn_ok (l := l) (p := p) (k := k) (by omega)
        have e4 : p + k - p = k := by omega
        have e5 : (rnL l p 0 (k : Int)).length = 0 + (p + k - p) := by rw [e1, List.length_take, List.length_drop]; omega
        have S99 := S7.rowc 1 rfl (n' := (rnL l p 0 (k : Int)).length) (xs' := bL (rnL l p 0 (k : Int))) e5.symm (by rw [e1, e4]; rfl)
        refine ⟨_, rfl, by rw [e2, e3]; exact xr_of (S99.turned1 0 rfl) rfl, _, _, by rw [e5], S99.get 1 rfl, new_of S99 1 rfl (fun i hi => St.apart_ S99 0 1 rfl rfl rfl i hi)⟩


theorem rw_le (l : List UInt8) (p q k : Nat) : (rwL l p q k).length ≤ k := by
  unfold rwL
  split
  · exact tk_le l p k
  · simp


set_option maxRecDepth 100000 in
theorem xbig (g : Nat) (A : Option Addr) (n c : Nat) (l : List UInt8) (p q : Nat) (j : Nat) (w0 : World) (hw : (xr g A n c p q).holds w0) (hb : Rs w0 1 A n c (bL l)) (hp : p ≤ l.length) (hn62 : n ≤ 140737488355300) (hbg : ∀ ad, 0 < n → A = some ad → ad.block ≠ g) (hj : j ≤ 8) :
    Calls Try.prog 40 #[.pointer (some ⟨g, 0, none⟩), .int .i64 (j : Int)] w0 fun e w' => ∃ u, e = .returned u ∧ u = .int .u64 (be (rwL l p q j) : Int) ∧ Turned w0 w' (xr g A n c p q) (xr g A n c (rwP l p q j) (rwE l p q j)) := by
  refine enter1 (env := [(0, .pointer (some ⟨g, 0, none⟩)), (1, .int .i64 (j : Int))]) [.pointer (some ⟨g, 0, none⟩), .int .i64 (j : Int)] Try.func40 rfl Try.ntmps40 rfl rfl ?_
  have hnl := hb.lenb; have hcap := hb.cap; have hmx := hb.max; have S0 := St.borrow1 (blk g 48 #[.slice A n c, .int .i64 (p : Int), .int .i64 (q : Int)]) hw (xr_lt hw)
  refine T_seq fun K1 hK1 => ?_
  refine T_region ?_
  refine L_y (y_assign rfl) rfl ?_
  refine L_nil ?_
  refine hK1 _ _ ?_
  refine T_seq fun K2 hK2 => ?_
  refine T_region ?_
  refine L_y (y_move rfl) rfl ?_
  refine L_y (y_move rfl) rfl ?_
  refine L_o (o_call Try.func43 rfl rfl (xraw g A n c l p q (j : Int) w0 (S0.get 0 rfl) hb hp hn62 hbg (by omega)) rfl rfl ?_)
  rintro e1 w1 ⟨v1, rfl, T1, B9, d9, rfl, hr1, hd1⟩
  refine ⟨_, rfl, ?_⟩
  have S1 := S0.turn 0 rfl T1
  obtain ⟨e1, e2, e3⟩ := rn_nat l p q j
  have HR := rs_of_row hr1
  rw [show (rnL l p q (j : Int)).length = (rwL l p q j).length from congrArg _ e1, show bL (rnL l p q (j : Int)) = bL (rwL l p q j) from congrArg _ e1] at HR
  rw [show (Value.slice B9 (rnL l p q (j : Int)).length d9) = Value.slice B9 (rwL l p q j).length d9 by rw [e1]]
  rw [e2, e3] at S1
  have htl := rw_le l p q j
  refine L_y (y_assign rfl) rfl ?_
  refine L_nil ?_
  refine hK2 _ _ ?_
  refine T_seq fun K3 hK3 => ?_
  refine T_region ?_
  refine L_y (y_assign rfl) rfl ?_
  refine L_nil ?_
  refine hK3 _ _ ?_
  refine T_seq fun K4 hK4 => ?_
  refine T_seq fun K5 hK5 => ?_
  refine T_region ?_
  refine L_y (y_assign rfl) rfl ?_
  refine L_nil ?_
  refine hK5 _ _ ?_
  refine T_block ?_
  refine T_loop1 [(5, _)] (fun (k : Nat) => [(6, .int .u64 (be ((rwL l p q j).take k) : Int)), (7, .int .i64 (k : Int))]) (fun (k : Nat) => (rwL l p q j).length - k) (fun (k : Nat) (w : World) => (k ≤ (rwL l p q j).length ∧ Rs w 1 B9 (rwL l p q j).length d9 (bL (rwL l p q j))) ∧ St w0 (xr g A n c p q).dom [xr g A n c (rwP l p q j) (rwE l p q j)] w) 0 (Sub.cons rfl (by first | rfl | exact congrArg (Value.int _) (by omega)) (Sub.cons rfl (by first | rfl | exact congrArg (Value.int _) (by omega)) (Sub.nil _))) (Sub.cons rfl rfl (Sub.nil _)) ?_ ?_
  ·
    exact ⟨⟨Nat.zero_le _, HR⟩, S1⟩
  ·
    intro k w2 hrel
    obtain ⟨⟨hk, RX⟩, S2⟩ := hrel
    refine T_seq fun K6 hK6 => ?_
    refine T_seq fun K7 hK7 => ?_
    refine T_region ?_
    refine L_y (y_move rfl) rfl ?_
    refine L_y (y_move rfl) rfl ?_
    refine L_y (y_len Try.underlying25 rfl) rfl ?_
    refine L_y (y_lss rfl rfl) rfl ?_
    refine L_nil ?_
    refine hK7 _ _ ?_
    refine T_cond rfl (fun h14 => ?_) (fun h14 => ?_)
    ·
      obtain ⟨x, hx⟩ : ∃ x, (rwL l p q j)[k]? = some x := ⟨_, List.getElem?_eq_getElem (by omega)⟩
      have hxl := x.toNat_lt
      have hbb := be_bound (k := k) (j := 7) (show k < (rwL l p q j).length by omega) (by omega)
      refine T_skip ?_
      refine hK6 _ _ ?_
      refine T_seq fun K8 hK8 => ?_
      refine T_block ?_
      refine T_region ?_
      refine L_y (y_move rfl) rfl ?_
      refine L_y (y_mul rfl rfl (IntKind.wrap_u64 _)) rfl ?_
      refine L_y (y_move rfl) rfl ?_
      refine L_y (y_move rfl) rfl ?_
      refine L_y (y_idx Try.underlying25 sz5 rfl rfl (RX) inferInstance (by omega)) rfl ?_
      refine L_y (y_ldr Try.underlying5 rfl rfl RX (bL_getX hx)) rfl ?_
      refine L_y (y_conv is5 Try.underlying27 rfl (u64w (by omega))) rfl ?_
      refine L_y (y_add rfl rfl (IntKind.wrap_u64 _)) rfl ?_
      refine L_y (y_assign rfl) rfl ?_
      refine L_nil ?_
      refine hK8 _ _ ?_
      refine T_region ?_
      refine L_y (y_move rfl) rfl ?_
      refine L_y (y_add rfl rfl (i64w (by omega))) rfl ?_
      refine L_y (y_assign rfl) rfl ?_
      refine L_nil ?_
      refine ⟨k + 1, by omega, ⟨⟨by omega, RX⟩, S2⟩, ?_⟩
      exact (Sub.cons rfl (congrArg (Value.int _) (by rw [be_take hx]; omega)) (Sub.cons rfl (by first | rfl | exact congrArg (Value.int _) (by omega)) (Sub.cons rfl rfl (Sub.nil _))))
    ·
      have hke : k = (rwL l p q j).length := by omega
      subst hke
      refine T_exit ?_
      refine hK4 _ _ ?_
      refine T_seq fun K9 hK9 => ?_
      refine T_region ?_
      refine L_y (y_move rfl) rfl ?_
      refine L_y (y_assign rfl) rfl ?_
      refine L_nil ?_
      refine hK9 _ _ ?_
      refine T_ret ?_
      refine ur ?_
      refine ret1 rfl rfl ?_
      exact ⟨_, rfl, by rw [List.take_length], S2.turned1 0 rfl⟩


set_option maxRecDepth 100000 in
theorem xvar (g : Nat) (A : Option Addr) (n c : Nat) (l : List UInt8) (p q : Nat) (m : Nat) (w0 : World) (hw : (xr g A n c p q).holds w0) (hb : Rs w0 1 A n c (bL l)) (hp : p ≤ l.length) (hn62 : n ≤ 140737488355300) (hbg : ∀ ad, 0 < n → A = some ad → ad.block ≠ g) :
    Calls Try.prog 41 #[.pointer (some ⟨g, 0, none⟩), .int .u64 (m : Int)] w0 fun e w' => ∃ u, e = .returned u ∧ u = .int .u64 ((vaN l p q m).1 : Int) ∧ Turned w0 w' (xr g A n c p q) (xr g A n c (vaN l p q m).2.1 (vaN l p q m).2.2) := by
  refine enter1 (env := [(0, .pointer (some ⟨g, 0, none⟩)), (1, .int .u64 (m : Int))]) [.pointer (some ⟨g, 0, none⟩), .int .u64 (m : Int)] Try.func41 rfl Try.ntmps41 rfl rfl ?_
  have hnl := hb.lenb; have hcap := hb.cap; have hmx := hb.max; have S0 := St.borrow1 (blk g 48 #[.slice A n c, .int .i64 (p : Int), .int .i64 (q : Int)]) hw (xr_lt hw)
  refine T_seq fun K1 hK1 => ?_
  refine T_region ?_
  refine L_y (y_assign rfl) rfl ?_
  refine L_nil ?_
  refine hK1 _ _ ?_
  refine T_seq fun K2 hK2 => ?_
  refine T_seq fun K3 hK3 => ?_
  refine T_region ?_
  refine L_y (y_move rfl) rfl ?_
  refine L_y (y_nilp rfl) rfl ?_
  refine L_y (y_fieldA 2 Try.underlying48 rfl sz3 rfl rfl rfl) rfl ?_
  refine L_y (y_ldc Try.underlying3 rfl rfl (((S0.blk 0 rfl).cell _).trans (by rfl))) rfl ?_
  refine L_y (y_neq rfl rfl) rfl ?_
  refine L_nil ?_
  refine hK3 _ _ ?_
  refine T_cond rfl (fun h12 => ?_) (fun h12 => ?_)
  ·
    refine T_seq fun K4 hK4 => ?_
    refine T_region ?_
    refine L_y (y_assign rfl) rfl ?_
    refine L_nil ?_
    refine hK4 _ _ ?_
    refine T_ret ?_
    refine ur ?_
    refine ret1 rfl rfl ?_
    have hV : vaN l p q m = (0, p, q) := by rw [vaN, if_pos (by omega)]
    exact ⟨_, rfl, by rw [hV]; rfl, by rw [hV]; exact xr_of (S0.turned1 0 rfl) rfl⟩
  ·
    have hq : q = 0 := by omega
    subst hq
    refine T_skip ?_
    refine hK2 _ _ ?_
    refine T_seq fun K5 hK5 => ?_
    refine T_region ?_
    refine L_y (y_move rfl) rfl ?_
    refine L_o (o_call Try.func46 rfl rfl (xnumber g A n c l p _ w0 (S0.get 0 rfl) hb hp hn62) rfl rfl ?_)
    rintro e1 w1 ⟨v1, rfl, l1, rfl⟩
    refine ⟨_, rfl, ?_⟩
    have S1 := S0.like l1
    have hE := nu_e l p
    have hat := nu_at l p hp
    have hmx2 := nu_max l p
    refine L_y (y_move rfl) rfl ?_
    refine L_y (y_extract rfl rfl) rfl ?_
    refine L_y (y_extract rfl rfl) rfl ?_
    refine L_y (y_extract rfl rfl) rfl ?_
    refine L_y (y_assign rfl) rfl ?_
    refine L_y (y_assign rfl) rfl ?_
    refine L_y (y_assign rfl) rfl ?_
    refine L_nil ?_
    refine hK5 _ _ ?_
    refine T_seq fun K6 hK6 => ?_
    refine T_seq fun K7 hK7 => ?_
    refine T_region ?_
    refine L_y (y_move rfl) rfl ?_
    refine L_y (y_eql rfl rfl) rfl ?_
    refine L_y (y_move rfl) rfl ?_
    refine L_split 21 rfl (fun h21 => ?_) (fun h21 => ?_)
    ·
      refine L_gyes rfl rfl ?_
      refine L_y (y_move rfl) rfl ?_
      refine L_gyes rfl rfl ?_
      refine L_y (y_move rfl) rfl ?_
      refine L_gyes rfl rfl ?_
      refine L_y (y_gtr rfl rfl) rfl ?_
      refine L_y (y_pk rfl rfl) rfl ?_
      refine L_nil ?_
      refine hK7 _ _ ?_
      refine T_cond rfl (fun h25 => ?_) (fun h25 => ?_)
      ·
        refine T_region ?_
        refine L_y (y_assign rfl) rfl ?_
        refine L_nil ?_
        refine hK6 _ _ ?_
        refine T_seq fun K8 hK8 => ?_
        refine T_seq fun K9 hK9 => ?_
        refine T_region ?_
        refine L_y (y_move rfl) rfl ?_
        refine L_y (y_neq rfl rfl) rfl ?_
        refine L_nil ?_
        refine hK9 _ _ ?_
        refine T_cond rfl (fun h27 => ?_) (fun h27 => ?_)
        ·
          refine T_seq fun K10 hK10 => ?_
          refine T_region ?_
          refine L_y (y_move rfl) rfl ?_
          refine L_y (y_move rfl) rfl ?_
          refine L_y (y_nilp rfl) rfl ?_
          refine L_y (y_fieldA 2 Try.underlying48 rfl sz3 rfl rfl rfl) rfl ?_
          refine L_o (o_st1 S1 0 rfl rfl rfl rfl sz3 (by simp; done) fun w3 S3 => ?_)
          refine L_nil ?_
          refine hK10 _ _ ?_
          refine T_seq fun K11 hK11 => ?_
          refine T_region ?_
          refine L_y (y_assign rfl) rfl ?_
          refine L_nil ?_
          refine hK11 _ _ ?_
          refine T_ret ?_
          refine ur ?_
          refine ret1 rfl rfl ?_
          have hV : vaN l p 0 m = (0, p, 3) := by rw [vaN, if_neg (by omega), if_neg (by omega), if_pos (by rw [← nu_ok (by omega)]; omega)]
          exact ⟨_, rfl, by rw [hV]; rfl, by rw [hV]; exact xr_of (S3.turned1 0 rfl) rfl⟩
        ·
          refine T_skip ?_
          refine hK8 _ _ ?_
          refine T_seq fun K12 hK12 => ?_
          refine T_region ?_
          refine L_y (y_move rfl) rfl ?_
          refine L_y (y_move rfl) rfl ?_
          refine L_y (y_nilp rfl) rfl ?_
          refine L_y (y_fieldA 1 Try.underlying48 rfl sz3 rfl rfl rfl) rfl ?_
          refine L_y (y_ldc Try.underlying3 rfl rfl (((S1.blk 0 rfl).cell _).trans (by rfl))) rfl ?_
          refine L_y (y_move rfl) rfl ?_
          refine L_y (y_add rfl rfl (i64w (by omega))) rfl ?_
          refine L_y (y_nilp rfl) rfl ?_
          refine L_y (y_fieldA 1 Try.underlying48 rfl sz3 rfl rfl rfl) rfl ?_
          refine L_o (o_st1 S1 0 rfl rfl rfl rfl sz3 (by simp; done) fun w4 S4 => ?_)
          refine L_nil ?_
          refine hK12 _ _ ?_
          refine T_seq fun K13 hK13 => ?_
          refine T_region ?_
          refine L_y (y_move rfl) rfl ?_
          refine L_y (y_assign rfl) rfl ?_
          refine L_nil ?_
          refine hK13 _ _ ?_
          refine T_ret ?_
          refine ur ?_
          refine ret1 rfl rfl ?_
          exfalso; omega
      ·
        refine T_skip ?_
        refine hK6 _ _ ?_
        refine T_seq fun K14 hK14 => ?_
        refine T_seq fun K15 hK15 => ?_
        refine T_region ?_
        refine L_y (y_move rfl) rfl ?_
        refine L_y (y_neq rfl rfl) rfl ?_
        refine L_nil ?_
        refine hK15 _ _ ?_
        refine T_cond rfl (fun h27 => ?_) (fun h27 => ?_)
        ·
          refine T_seq fun K16 hK16 => ?_
          refine T_region ?_
          refine L_y (y_move rfl) rfl ?_
          refine L_y (y_move rfl) rfl ?_
          refine L_y (y_nilp rfl) rfl ?_
          refine L_y (y_fieldA 2 Try.underlying48 rfl sz3 rfl rfl rfl) rfl ?_
          refine L_o (o_st1 S1 0 rfl rfl rfl rfl sz3 (by simp; done) fun w5 S5 => ?_)
          refine L_nil ?_
          refine hK16 _ _ ?_
          refine T_seq fun K17 hK17 => ?_
          refine T_region ?_
          refine L_y (y_assign rfl) rfl ?_
          refine L_nil ?_
          refine hK17 _ _ ?_
          refine T_ret ?_
          refine ur ?_
          refine ret1 rfl rfl ?_
          exfalso; omega
        ·
          refine T_skip ?_
          refine hK14 _ _ ?_
          refine T_seq fun K18 hK18 => ?_
          refine T_region ?_
          refine L_y (y_move rfl) rfl ?_
          refine L_y (y_move rfl) rfl ?_
          refine L_y (y_nilp rfl) rfl ?_
          refine L_y (y_fieldA 1 Try.underlying48 rfl sz3 rfl rfl rfl) rfl ?_
          refine L_y (y_ldc Try.underlying3 rfl rfl (((S1.blk 0 rfl).cell _).trans (by rfl))) rfl ?_
          refine L_y (y_move rfl) rfl ?_
          refine L_y (y_add rfl rfl (i64w (by omega))) rfl ?_
          refine L_y (y_nilp rfl) rfl ?_
          refine L_y (y_fieldA 1 Try.underlying48 rfl sz3 rfl rfl rfl) rfl ?_
          refine L_o (o_st1 S1 0 rfl rfl rfl rfl sz3 (by simp; done) fun w6 S6 => ?_)
          refine L_nil ?_
          refine hK18 _ _ ?_
          refine T_seq fun K19 hK19 => ?_
          refine T_region ?_
          refine L_y (y_move rfl) rfl ?_
          refine L_y (y_assign rfl) rfl ?_
          refine L_nil ?_
          refine hK19 _ _ ?_
          refine T_ret ?_
          refine ur ?_
          refine ret1 rfl rfl ?_
          have hV : vaN l p 0 m = ((nuN l p).1, p + (nuN l p).2.1, 0) := by rw [vaN, if_neg (by omega), if_neg (by omega), if_neg (by rw [← nu_ok (by omega)]; omega), nu_ok (by omega)]
          exact ⟨_, rfl, by rw [hV]; rfl, by rw [hV]; exact xr_of (S6.turned1 0 rfl) rfl⟩
    ·
      refine L_gno rfl rfl rfl ?_
      refine L_gno rfl rfl rfl ?_
      refine L_gno rfl rfl rfl ?_
      refine L_y (y_pk rfl rfl) rfl ?_
      refine L_nil ?_
      refine hK7 _ _ ?_
      refine T_false rfl ?_
      refine T_skip ?_
      refine hK6 _ _ ?_
      refine T_seq fun K20 hK20 => ?_
      refine T_seq fun K21 hK21 => ?_
      refine T_region ?_
      refine L_y (y_move rfl) rfl ?_
      refine L_y (y_neq rfl rfl) rfl ?_
      refine L_nil ?_
      refine hK21 _ _ ?_
      refine T_cond rfl (fun h27 => ?_) (fun h27 => ?_)
      ·
        refine T_seq fun K22 hK22 => ?_
        refine T_region ?_
        refine L_y (y_move rfl) rfl ?_
        refine L_y (y_move rfl) rfl ?_
        refine L_y (y_nilp rfl) rfl ?_
        refine L_y (y_fieldA 2 Try.underlying48 rfl sz3 rfl rfl rfl) rfl ?_
        refine L_o (o_st1 S1 0 rfl rfl rfl rfl sz3 (by simp; done) fun w7 S7 => ?_)
        refine L_nil ?_
        refine hK22 _ _ ?_
        refine T_seq fun K23 hK23 => ?_
        refine T_region ?_
        refine L_y (y_assign rfl) rfl ?_
        refine L_nil ?_
        refine hK23 _ _ ?_
        refine T_ret ?_
        refine ur ?_
        refine ret1 rfl rfl ?_
        have hV : vaN l p 0 m = (0, p, (nuN l p).2.2) := by rw [vaN, if_neg (by omega), if_pos (by omega), hE]
        exact ⟨_, rfl, by rw [hV]; rfl, by rw [hV]; exact xr_of (S7.turned1 0 rfl) rfl⟩
      ·
        refine T_skip ?_
        refine hK20 _ _ ?_
        refine T_seq fun K24 hK24 => ?_
        refine T_region ?_
        refine L_y (y_move rfl) rfl ?_
        refine L_y (y_move rfl) rfl ?_
        refine L_y (y_nilp rfl) rfl ?_
        refine L_y (y_fieldA 1 Try.underlying48 rfl sz3 rfl rfl rfl) rfl ?_
        refine L_y (y_ldc Try.underlying3 rfl rfl (((S1.blk 0 rfl).cell _).trans (by rfl))) rfl ?_
        refine L_y (y_move rfl) rfl ?_
        refine L_y (y_add rfl rfl (i64w (by omega))) rfl ?_
        refine L_y (y_nilp rfl) rfl ?_
        refine L_y (y_fieldA 1 Try.underlying48 rfl sz3 rfl rfl rfl) rfl ?_
        refine L_o (o_st1 S1 0 rfl rfl rfl rfl sz3 (by simp; done) fun w8 S8 => ?_)
        refine L_nil ?_
        refine hK24 _ _ ?_
        refine T_seq fun K25 hK25 => ?_
        refine T_region ?_
        refine L_y (y_move rfl) rfl ?_
        refine L_y (y_assign rfl) rfl ?_
        refine L_nil ?_
        refine hK25 _ _ ?_
        refine T_ret ?_
        refine ur ?_
        refine ret1 rfl rfl ?_
        exfalso; omega


set_option maxRecDepth 100000 in
theorem xtext (g : Nat) (A : Option Addr) (n c : Nat) (l : List UInt8) (p q : Nat) (m : Int) (w0 : World) (hw : (xr g A n c p q).holds w0) (hb : Rs w0 1 A n c (bL l)) (hp : p ≤ l.length) (hn62 : n ≤ 140737488355300) (hbg : ∀ ad, 0 < n → A = some ad → ad.block ≠ g) (hm : m ≤ 9223372036854775807) :
    Calls Try.prog 42 #[.pointer (some ⟨g, 0, none⟩), .int .i64 m] w0 fun e w' => ∃ u, e = .returned u ∧ u = .string ⟨(txN l p q m).1.toArray⟩ ∧ Turned w0 w' (xr g A n c p q) (xr g A n c (txN l p q m).2.1 (txN l p q m).2.2) := by
  refine enter1 (env := [(0, .pointer (some ⟨g, 0, none⟩)), (1, .int .i64 m)]) [.pointer (some ⟨g, 0, none⟩), .int .i64 m] Try.func42 rfl Try.ntmps42 rfl rfl ?_
  have hnl := hb.lenb; have hcap := hb.cap; have hmx := hb.max; have S0 := St.borrow1 (blk g 48 #[.slice A n c, .int .i64 (p : Int), .int .i64 (q : Int)]) hw (xr_lt hw)
  refine T_seq fun K1 hK1 => ?_
  refine T_region ?_
  refine L_y (y_assign rfl) rfl ?_
  refine L_nil ?_
  refine hK1 _ _ ?_
  refine T_seq fun K2 hK2 => ?_
  refine T_seq fun K3 hK3 => ?_
  refine T_region ?_
  refine L_y (y_move rfl) rfl ?_
  refine L_y (y_nilp rfl) rfl ?_
  refine L_y (y_fieldA 2 Try.underlying48 rfl sz3 rfl rfl rfl) rfl ?_
  refine L_y (y_ldc Try.underlying3 rfl rfl (((S0.blk 0 rfl).cell _).trans (by rfl))) rfl ?_
  refine L_y (y_neq rfl rfl) rfl ?_
  refine L_nil ?_
  refine hK3 _ _ ?_
  refine T_cond rfl (fun h13 => ?_) (fun h13 => ?_)
  ·
    refine T_seq fun K4 hK4 => ?_
    refine T_region ?_
    refine L_y (y_assign rfl) rfl ?_
    refine L_nil ?_
    refine hK4 _ _ ?_
    refine T_ret ?_
    refine ur ?_
    refine ret1 rfl rfl ?_
    have hV : txN l p q m = ([], p, q) := (by rw [txN, if_pos (by omega)])
    exact ⟨_, rfl, by rw [hV], by rw [hV]; exact xr_of (S0.turned1 0 rfl) rfl⟩
  ·
    have hq : q = 0 := by omega
    subst hq
    refine T_skip ?_
    refine hK2 _ _ ?_
    refine T_seq fun K5 hK5 => ?_
    refine T_region ?_
    refine L_y (y_move rfl) rfl ?_
    refine L_o (o_call Try.func46 rfl rfl (xnumber g A n c l p _ w0 (S0.get 0 rfl) hb hp hn62) rfl rfl ?_)
    rintro e1 w1 ⟨v1, rfl, l1, rfl⟩
    refine ⟨_, rfl, ?_⟩
    have S1 := S0.like l1
    have hE := nu_e l p
    have hat := nu_at l p hp
    have hmx2 := nu_max l p
    refine L_y (y_move rfl) rfl ?_
    refine L_y (y_extract rfl rfl) rfl ?_
    refine L_y (y_extract rfl rfl) rfl ?_
    refine L_y (y_extract rfl rfl) rfl ?_
    refine L_y (y_assign rfl) rfl ?_
    refine L_y (y_assign rfl) rfl ?_
    refine L_y (y_assign rfl) rfl ?_
    refine L_nil ?_
    refine hK5 _ _ ?_
    refine T_seq fun K6 hK6 => ?_
    refine T_seq fun K7 hK7 => ?_
    refine T_region ?_
    refine L_y (y_move rfl) rfl ?_
    refine L_y (y_eql rfl rfl) rfl ?_
    refine L_y (y_move rfl) rfl ?_
    refine L_split 22 rfl (fun h22 => ?_) (fun h22 => ?_)
    ·
      refine L_gyes rfl rfl ?_
      refine L_y (y_move rfl) rfl ?_
      refine L_gyes rfl rfl ?_
      refine L_y (y_lss rfl rfl) rfl ?_
      refine L_gyes rfl rfl ?_
      refine L_y (y_move rfl) rfl ?_
      refine L_split 25 rfl (fun h25 => ?_) (fun h25 => ?_)
      ·
        refine L_gno rfl rfl rfl ?_
        refine L_gno rfl rfl rfl ?_
        refine L_gno rfl rfl rfl ?_
        refine L_gno rfl rfl rfl ?_
        refine L_gyes rfl rfl ?_
        refine L_y (y_pk rfl rfl) rfl ?_
        refine L_y (y_pk rfl rfl) rfl ?_
        refine L_nil ?_
        refine hK7 _ _ ?_
        refine T_true rfl ?_
        refine T_region ?_
        refine L_y (y_assign rfl) rfl ?_
        refine L_nil ?_
        refine hK6 _ _ ?_
        refine T_seq fun K8 hK8 => ?_
        refine T_seq fun K9 hK9 => ?_
        refine T_drawnL [(0, true), (1, true), (2, true), (3, true), (4, true), (5, true), (6, true), (7, true), (8, true), (9, true), (10, true), (11, true), (12, true), (13, true), (14, true), (15, true), (16, true), (17, true), (18, true)] hmix (by kernel_rfl) fun w4 l4 => ?_
        have S4 := S1.like l4
        refine DL_y rfl (y_move rfl) rfl ?_
        refine DL_y rfl (y_eql rfl rfl) rfl ?_
        refine DL_y rfl (y_move rfl) rfl ?_
        refine DL_split 34 rfl (fun h34 => ?_) (fun h34 => ?_)
        ·
          refine DL_gyes rfl rfl rfl (y_move rfl) rfl ?_
          refine DL_gyes rfl rfl rfl (y_move rfl) rfl ?_
          refine DL_gyes rfl rfl rfl (y_nilp rfl) rfl ?_
          refine DL_gyes rfl rfl rfl (y_fieldA 0 Try.underlying48 rfl sz25 rfl rfl rfl) rfl ?_
          refine DL_gyes rfl rfl rfl (y_ldc Try.underlying25 rfl rfl (((S4.blk 0 rfl).cell _).trans (by rfl))) rfl ?_
          refine DL_gyes rfl rfl rfl (y_len Try.underlying25 rfl) rfl ?_
          refine DL_gyes rfl rfl rfl (y_move rfl) rfl ?_
          refine DL_gyes rfl rfl rfl (y_nilp rfl) rfl ?_
          refine DL_gyes rfl rfl rfl (y_fieldA 1 Try.underlying48 rfl sz3 rfl rfl rfl) rfl ?_
          refine DL_gyes rfl rfl rfl (y_ldc Try.underlying3 rfl rfl (((S4.blk 0 rfl).cell _).trans (by rfl))) rfl ?_
          refine DL_gyes rfl rfl rfl (y_sub rfl rfl (i64w (by omega))) rfl ?_
          refine DL_gyes rfl rfl rfl (y_move rfl) rfl ?_
          refine DL_gyes rfl rfl rfl (y_sub rfl rfl (i64w (by omega))) rfl ?_
          refine DL_gyes rfl rfl rfl (y_conv is3 Try.underlying27 rfl (u64w (by omega))) rfl ?_
          refine DL_gyes rfl rfl rfl (y_gtr rfl rfl) rfl ?_
          refine DL_y rfl (y_pk rfl rfl) rfl ?_
          refine DL_nil ?_
          refine hK9 _ _ ?_
          refine T_cond rfl (fun h50 => ?_) (fun h50 => ?_)
          ·
            refine T_region ?_
            refine L_y (y_assign rfl) rfl ?_
            refine L_nil ?_
            refine hK8 _ _ ?_
            refine T_seq fun K10 hK10 => ?_
            refine T_seq fun K11 hK11 => ?_
            refine T_region ?_
            refine L_y (y_move rfl) rfl ?_
            refine L_y (y_neq rfl rfl) rfl ?_
            refine L_nil ?_
            refine hK11 _ _ ?_
            refine T_cond rfl (fun h52 => ?_) (fun h52 => ?_)
            ·
              refine T_seq fun K12 hK12 => ?_
              refine T_region ?_
              refine L_y (y_move rfl) rfl ?_
              refine L_y (y_move rfl) rfl ?_
              refine L_y (y_nilp rfl) rfl ?_
              refine L_y (y_fieldA 2 Try.underlying48 rfl sz3 rfl rfl rfl) rfl ?_
              refine L_o (o_st1 S4 0 rfl rfl rfl rfl sz3 (by simp; done) fun w5 S5 => ?_)
              refine L_nil ?_
              refine hK12 _ _ ?_
              refine T_seq fun K13 hK13 => ?_
              refine T_region ?_
              refine L_y (y_assign rfl) rfl ?_
              refine L_nil ?_
              refine hK13 _ _ ?_
              refine T_ret ?_
              refine ur ?_
              refine ret1 rfl rfl ?_
              first
              | (exfalso; omega)
              | (have hO : nuN l p = (numF (l.drop p) 0 0) := nu_ok (by omega); have hV : txN l p 0 m = ([], p, 3) := (by rw [txN, if_neg (by omega), if_neg (by omega), if_pos (by rw [← hO]; omega)]); exact ⟨_, rfl, by rw [hV], by rw [hV]; exact xr_of (S5.turned1 0 rfl) rfl⟩)
            ·
              refine T_skip ?_
              refine hK10 _ _ ?_
              refine T_seq fun K14 hK14 => ?_
              refine T_drawnL [(0, true), (1, true), (2, true), (3, true), (4, true), (5, true), (6, true), (7, true), (8, true), (9, true), (10, true), (11, true), (12, true), (13, true), (14, true), (15, true), (16, true), (17, true), (18, true), (19, true), (20, true), (21, true)] hmix (by kernel_rfl) fun w6 l6 => ?_
              have S6 := S4.like l6
              refine DL_y rfl (y_move rfl) rfl ?_
              refine DL_y rfl (y_nilp rfl) rfl ?_
              refine DL_y rfl (y_fieldA 0 Try.underlying48 rfl sz25 rfl rfl rfl) rfl ?_
              refine DL_y rfl (y_ldc Try.underlying25 rfl rfl (((S6.blk 0 rfl).cell _).trans (by rfl))) rfl ?_
              refine DL_y rfl (y_move rfl) rfl ?_
              refine DL_y rfl (y_nilp rfl) rfl ?_
              refine DL_y rfl (y_fieldA 1 Try.underlying48 rfl sz3 rfl rfl rfl) rfl ?_
              refine DL_y rfl (y_ldc Try.underlying3 rfl rfl (((S6.blk 0 rfl).cell _).trans (by rfl))) rfl ?_
              refine DL_y rfl (y_move rfl) rfl ?_
              refine DL_y rfl (y_add rfl rfl (i64w (by omega))) rfl ?_
              refine DL_y rfl (y_move rfl) rfl ?_
              refine DL_y rfl (y_nilp rfl) rfl ?_
              refine DL_y rfl (y_fieldA 1 Try.underlying48 rfl sz3 rfl rfl rfl) rfl ?_
              refine DL_y rfl (y_ldc Try.underlying3 rfl rfl (((S6.blk 0 rfl).cell _).trans (by rfl))) rfl ?_
              refine DL_y rfl (y_move rfl) rfl ?_
              refine DL_y rfl (y_add rfl rfl (i64w (by omega))) rfl ?_
              refine DL_y rfl (y_move rfl) rfl ?_
              refine DL_y rfl (y_conv is27 Try.underlying3 rfl (i64w (by omega))) rfl ?_
              refine DL_y rfl (y_add rfl rfl (i64w (by omega))) rfl ?_
              refine DL_y rfl (y_slice Try.underlying25 sz5 rfl rfl rfl (Nt.mk (show _ = ((p + (nuN l p).2.1 : Nat) : Int) by omega) : Nt _ (p + (nuN l p).2.1)) (Nt.mk (show _ = ((p + (nuN l p).2.1 + (nuN l p).1 : Nat) : Int) by omega) : Nt _ (p + (nuN l p).2.1 + (nuN l p).1)) (by omega) (by omega)) rfl ?_
              refine DL_y rfl (y_bstr Try.underlying25 Try.underlying5 Try.underlying9 rfl ((S6.rdM hb hbg).cutb (l := p + (nuN l p).2.1) (u := p + (nuN l p).2.1 + (nuN l p).1) (by omega) (by omega))) rfl ?_
              refine DL_y rfl (y_assign rfl) rfl ?_
              refine DL_nil ?_
              refine hK14 _ _ ?_
              refine T_seq fun K15 hK15 => ?_
              refine T_region ?_
              refine L_y (y_move rfl) rfl ?_
              refine L_y (y_move rfl) rfl ?_
              refine L_y (y_nilp rfl) rfl ?_
              refine L_y (y_fieldA 1 Try.underlying48 rfl sz3 rfl rfl rfl) rfl ?_
              refine L_y (y_ldc Try.underlying3 rfl rfl (((S6.blk 0 rfl).cell _).trans (by rfl))) rfl ?_
              refine L_y (y_move rfl) rfl ?_
              refine L_y (y_add rfl rfl (i64w (by omega))) rfl ?_
              refine L_y (y_move rfl) rfl ?_
              refine L_y (y_conv is27 Try.underlying3 rfl (i64w (by omega))) rfl ?_
              refine L_y (y_add rfl rfl (i64w (by omega))) rfl ?_
              refine L_y (y_nilp rfl) rfl ?_
              refine L_y (y_fieldA 1 Try.underlying48 rfl sz3 rfl rfl rfl) rfl ?_
              refine L_o (o_st1 S6 0 rfl rfl rfl rfl sz3 (by simp; done) fun w7 S7 => ?_)
              refine L_nil ?_
              refine hK15 _ _ ?_
              refine T_seq fun K16 hK16 => ?_
              refine T_region ?_
              refine L_y (y_move rfl) rfl ?_
              refine L_y (y_assign rfl) rfl ?_
              refine L_nil ?_
              refine hK16 _ _ ?_
              refine T_ret ?_
              refine ur ?_
              refine ret1 rfl rfl ?_
              first
              | (exfalso; omega)
              | (have hO : nuN l p = (numF (l.drop p) 0 0) := nu_ok (by omega); have hV : txN l p 0 m = ([], p, 3) := (by rw [txN, if_neg (by omega), if_neg (by omega), if_pos (by rw [← hO]; omega)]); exact ⟨_, rfl, by rw [hV], by rw [hV]; exact xr_of (S7.turned1 0 rfl) rfl⟩)
          ·
            refine T_skip ?_
            refine hK8 _ _ ?_
            refine T_seq fun K17 hK17 => ?_
            refine T_seq fun K18 hK18 => ?_
            refine T_region ?_
            refine L_y (y_move rfl) rfl ?_
            refine L_y (y_neq rfl rfl) rfl ?_
            refine L_nil ?_
            refine hK18 _ _ ?_
            refine T_cond rfl (fun h52 => ?_) (fun h52 => ?_)
            ·
              refine T_seq fun K19 hK19 => ?_
              refine T_region ?_
              refine L_y (y_move rfl) rfl ?_
              refine L_y (y_move rfl) rfl ?_
              refine L_y (y_nilp rfl) rfl ?_
              refine L_y (y_fieldA 2 Try.underlying48 rfl sz3 rfl rfl rfl) rfl ?_
              refine L_o (o_st1 S4 0 rfl rfl rfl rfl sz3 (by simp; done) fun w8 S8 => ?_)
              refine L_nil ?_
              refine hK19 _ _ ?_
              refine T_seq fun K20 hK20 => ?_
              refine T_region ?_
              refine L_y (y_assign rfl) rfl ?_
              refine L_nil ?_
              refine hK20 _ _ ?_
              refine T_ret ?_
              refine ur ?_
              refine ret1 rfl rfl ?_
              first
              | (exfalso; omega)
              | (have hO : nuN l p = (numF (l.drop p) 0 0) := nu_ok (by omega); have hV : txN l p 0 m = ([], p, 3) := (by rw [txN, if_neg (by omega), if_neg (by omega), if_pos (by rw [← hO]; omega)]); exact ⟨_, rfl, by rw [hV], by rw [hV]; exact xr_of (S8.turned1 0 rfl) rfl⟩)
            ·
              refine T_skip ?_
              refine hK17 _ _ ?_
              refine T_seq fun K21 hK21 => ?_
              refine T_drawnL [(0, true), (1, true), (2, true), (3, true), (4, true), (5, true), (6, true), (7, true), (8, true), (9, true), (10, true), (11, true), (12, true), (13, true), (14, true), (15, true), (16, true), (17, true), (18, true), (19, true), (20, true), (21, true)] hmix (by kernel_rfl) fun w9 l9 => ?_
              have S9 := S4.like l9
              refine DL_y rfl (y_move rfl) rfl ?_
              refine DL_y rfl (y_nilp rfl) rfl ?_
              refine DL_y rfl (y_fieldA 0 Try.underlying48 rfl sz25 rfl rfl rfl) rfl ?_
              refine DL_y rfl (y_ldc Try.underlying25 rfl rfl (((S9.blk 0 rfl).cell _).trans (by rfl))) rfl ?_
              refine DL_y rfl (y_move rfl) rfl ?_
              refine DL_y rfl (y_nilp rfl) rfl ?_
              refine DL_y rfl (y_fieldA 1 Try.underlying48 rfl sz3 rfl rfl rfl) rfl ?_
              refine DL_y rfl (y_ldc Try.underlying3 rfl rfl (((S9.blk 0 rfl).cell _).trans (by rfl))) rfl ?_
              refine DL_y rfl (y_move rfl) rfl ?_
              refine DL_y rfl (y_add rfl rfl (i64w (by omega))) rfl ?_
              refine DL_y rfl (y_move rfl) rfl ?_
              refine DL_y rfl (y_nilp rfl) rfl ?_
              refine DL_y rfl (y_fieldA 1 Try.underlying48 rfl sz3 rfl rfl rfl) rfl ?_
              refine DL_y rfl (y_ldc Try.underlying3 rfl rfl (((S9.blk 0 rfl).cell _).trans (by rfl))) rfl ?_
              refine DL_y rfl (y_move rfl) rfl ?_
              refine DL_y rfl (y_add rfl rfl (i64w (by omega))) rfl ?_
              refine DL_y rfl (y_move rfl) rfl ?_
              refine DL_y rfl (y_conv is27 Try.underlying3 rfl (i64w (by omega))) rfl ?_
              refine DL_y rfl (y_add rfl rfl (i64w (by omega))) rfl ?_
              refine DL_y rfl (y_slice Try.underlying25 sz5 rfl rfl rfl (Nt.mk (show _ = ((p + (nuN l p).2.1 : Nat) : Int) by omega) : Nt _ (p + (nuN l p).2.1)) (Nt.mk (show _ = ((p + (nuN l p).2.1 + (nuN l p).1 : Nat) : Int) by omega) : Nt _ (p + (nuN l p).2.1 + (nuN l p).1)) (by omega) (by omega)) rfl ?_
              refine DL_y rfl (y_bstr Try.underlying25 Try.underlying5 Try.underlying9 rfl ((S9.rdM hb hbg).cutb (l := p + (nuN l p).2.1) (u := p + (nuN l p).2.1 + (nuN l p).1) (by omega) (by omega))) rfl ?_
              refine DL_y rfl (y_assign rfl) rfl ?_
              refine DL_nil ?_
              refine hK21 _ _ ?_
              refine T_seq fun K22 hK22 => ?_
              refine T_region ?_
              refine L_y (y_move rfl) rfl ?_
              refine L_y (y_move rfl) rfl ?_
              refine L_y (y_nilp rfl) rfl ?_
              refine L_y (y_fieldA 1 Try.underlying48 rfl sz3 rfl rfl rfl) rfl ?_
              refine L_y (y_ldc Try.underlying3 rfl rfl (((S9.blk 0 rfl).cell _).trans (by rfl))) rfl ?_
              refine L_y (y_move rfl) rfl ?_
              refine L_y (y_add rfl rfl (i64w (by omega))) rfl ?_
              refine L_y (y_move rfl) rfl ?_
              refine L_y (y_conv is27 Try.underlying3 rfl (i64w (by omega))) rfl ?_
              refine L_y (y_add rfl rfl (i64w (by omega))) rfl ?_
              refine L_y (y_nilp rfl) rfl ?_
              refine L_y (y_fieldA 1 Try.underlying48 rfl sz3 rfl rfl rfl) rfl ?_
              refine L_o (o_st1 S9 0 rfl rfl rfl rfl sz3 (by simp; done) fun w10 S10 => ?_)
              refine L_nil ?_
              refine hK22 _ _ ?_
              refine T_seq fun K23 hK23 => ?_
              refine T_region ?_
              refine L_y (y_move rfl) rfl ?_
              refine L_y (y_assign rfl) rfl ?_
              refine L_nil ?_
              refine hK23 _ _ ?_
              refine T_ret ?_
              refine ur ?_
              refine ret1 rfl rfl ?_
              first
              | (exfalso; omega)
              | (have hO : nuN l p = (numF (l.drop p) 0 0) := nu_ok (by omega); have hV : txN l p 0 m = ([], p, 3) := (by rw [txN, if_neg (by omega), if_neg (by omega), if_pos (by rw [← hO]; omega)]); exact ⟨_, rfl, by rw [hV], by rw [hV]; exact xr_of (S10.turned1 0 rfl) rfl⟩)
        ·
          refine DL_gno rfl rfl rfl rfl ?_
          refine DL_gno rfl rfl rfl rfl ?_
          refine DL_gno rfl rfl rfl rfl ?_
          refine DL_gno rfl rfl rfl rfl ?_
          refine DL_gno rfl rfl rfl rfl ?_
          refine DL_gno rfl rfl rfl rfl ?_
          refine DL_gno rfl rfl rfl rfl ?_
          refine DL_gno rfl rfl rfl rfl ?_
          refine DL_gno rfl rfl rfl rfl ?_
          refine DL_gno rfl rfl rfl rfl ?_
          refine DL_gno rfl rfl rfl rfl ?_
          refine DL_gno rfl rfl rfl rfl ?_
          refine DL_gno rfl rfl rfl rfl ?_
          refine DL_gno rfl rfl rfl rfl ?_
          refine DL_gno rfl rfl rfl rfl ?_
          refine DL_y rfl (y_pk rfl rfl) rfl ?_
          refine DL_nil ?_
          refine hK9 _ _ ?_
          refine T_false rfl ?_
          refine T_skip ?_
          refine hK8 _ _ ?_
          refine T_seq fun K24 hK24 => ?_
          refine T_seq fun K25 hK25 => ?_
          refine T_region ?_
          refine L_y (y_move rfl) rfl ?_
          refine L_y (y_neq rfl rfl) rfl ?_
          refine L_nil ?_
          refine hK25 _ _ ?_
          refine T_cond rfl (fun h52 => ?_) (fun h52 => ?_)
          ·
            refine T_seq fun K26 hK26 => ?_
            refine T_region ?_
            refine L_y (y_move rfl) rfl ?_
            refine L_y (y_move rfl) rfl ?_
            refine L_y (y_nilp rfl) rfl ?_
            refine L_y (y_fieldA 2 Try.underlying48 rfl sz3 rfl rfl rfl) rfl ?_
            refine L_o (o_st1 S4 0 rfl rfl rfl rfl sz3 (by simp; done) fun w11 S11 => ?_)
            refine L_nil ?_
            refine hK26 _ _ ?_
            refine T_seq fun K27 hK27 => ?_
            refine T_region ?_
            refine L_y (y_assign rfl) rfl ?_
            refine L_nil ?_
            refine hK27 _ _ ?_
            refine T_ret ?_
            refine ur ?_
            refine ret1 rfl rfl ?_
            first
            | (exfalso; omega)
            | (have hO : nuN l p = (numF (l.drop p) 0 0) := nu_ok (by omega); have hV : txN l p 0 m = ([], p, 3) := (by rw [txN, if_neg (by omega), if_neg (by omega), if_pos (by rw [← hO]; omega)]); exact ⟨_, rfl, by rw [hV], by rw [hV]; exact xr_of (S11.turned1 0 rfl) rfl⟩)
          ·
            refine T_skip ?_
            refine hK24 _ _ ?_
            refine T_seq fun K28 hK28 => ?_
            refine T_drawnL [(0, true), (1, true), (2, true), (3, true), (4, true), (5, true), (6, true), (7, true), (8, true), (9, true), (10, true), (11, true), (12, true), (13, true), (14, true), (15, true), (16, true), (17, true), (18, true), (19, true), (20, true), (21, true)] hmix (by kernel_rfl) fun w12 l12 => ?_
            have S12 := S4.like l12
            refine DL_y rfl (y_move rfl) rfl ?_
            refine DL_y rfl (y_nilp rfl) rfl ?_
            refine DL_y rfl (y_fieldA 0 Try.underlying48 rfl sz25 rfl rfl rfl) rfl ?_
            refine DL_y rfl (y_ldc Try.underlying25 rfl rfl (((S12.blk 0 rfl).cell _).trans (by rfl))) rfl ?_
            refine DL_y rfl (y_move rfl) rfl ?_
            refine DL_y rfl (y_nilp rfl) rfl ?_
            refine DL_y rfl (y_fieldA 1 Try.underlying48 rfl sz3 rfl rfl rfl) rfl ?_
            refine DL_y rfl (y_ldc Try.underlying3 rfl rfl (((S12.blk 0 rfl).cell _).trans (by rfl))) rfl ?_
            refine DL_y rfl (y_move rfl) rfl ?_
            refine DL_y rfl (y_add rfl rfl (i64w (by omega))) rfl ?_
            refine DL_y rfl (y_move rfl) rfl ?_
            refine DL_y rfl (y_nilp rfl) rfl ?_
            refine DL_y rfl (y_fieldA 1 Try.underlying48 rfl sz3 rfl rfl rfl) rfl ?_
            refine DL_y rfl (y_ldc Try.underlying3 rfl rfl (((S12.blk 0 rfl).cell _).trans (by rfl))) rfl ?_
            refine DL_y rfl (y_move rfl) rfl ?_
            refine DL_y rfl (y_add rfl rfl (i64w (by omega))) rfl ?_
            refine DL_y rfl (y_move rfl) rfl ?_
            refine DL_y rfl (y_conv is27 Try.underlying3 rfl (i64w (by omega))) rfl ?_
            refine DL_y rfl (y_add rfl rfl (i64w (by omega))) rfl ?_
            refine DL_y rfl (y_slice Try.underlying25 sz5 rfl rfl rfl (Nt.mk (show _ = ((p + (nuN l p).2.1 : Nat) : Int) by omega) : Nt _ (p + (nuN l p).2.1)) (Nt.mk (show _ = ((p + (nuN l p).2.1 + (nuN l p).1 : Nat) : Int) by omega) : Nt _ (p + (nuN l p).2.1 + (nuN l p).1)) (by omega) (by omega)) rfl ?_
            refine DL_y rfl (y_bstr Try.underlying25 Try.underlying5 Try.underlying9 rfl ((S12.rdM hb hbg).cutb (l := p + (nuN l p).2.1) (u := p + (nuN l p).2.1 + (nuN l p).1) (by omega) (by omega))) rfl ?_
            refine DL_y rfl (y_assign rfl) rfl ?_
            refine DL_nil ?_
            refine hK28 _ _ ?_
            refine T_seq fun K29 hK29 => ?_
            refine T_region ?_
            refine L_y (y_move rfl) rfl ?_
            refine L_y (y_move rfl) rfl ?_
            refine L_y (y_nilp rfl) rfl ?_
            refine L_y (y_fieldA 1 Try.underlying48 rfl sz3 rfl rfl rfl) rfl ?_
            refine L_y (y_ldc Try.underlying3 rfl rfl (((S12.blk 0 rfl).cell _).trans (by rfl))) rfl ?_
            refine L_y (y_move rfl) rfl ?_
            refine L_y (y_add rfl rfl (i64w (by omega))) rfl ?_
            refine L_y (y_move rfl) rfl ?_
            refine L_y (y_conv is27 Try.underlying3 rfl (i64w (by omega))) rfl ?_
            refine L_y (y_add rfl rfl (i64w (by omega))) rfl ?_
            refine L_y (y_nilp rfl) rfl ?_
            refine L_y (y_fieldA 1 Try.underlying48 rfl sz3 rfl rfl rfl) rfl ?_
            refine L_o (o_st1 S12 0 rfl rfl rfl rfl sz3 (by simp; done) fun w13 S13 => ?_)
            refine L_nil ?_
            refine hK29 _ _ ?_
            refine T_seq fun K30 hK30 => ?_
            refine T_region ?_
            refine L_y (y_move rfl) rfl ?_
            refine L_y (y_assign rfl) rfl ?_
            refine L_nil ?_
            refine hK30 _ _ ?_
            refine T_ret ?_
            refine ur ?_
            refine ret1 rfl rfl ?_
            first
            | (exfalso; omega)
            | (have hO : nuN l p = (numF (l.drop p) 0 0) := nu_ok (by omega); have hV : txN l p 0 m = ([], p, 3) := (by rw [txN, if_neg (by omega), if_neg (by omega), if_pos (by rw [← hO]; omega)]); exact ⟨_, rfl, by rw [hV], by rw [hV]; exact xr_of (S13.turned1 0 rfl) rfl⟩)
      ·
        refine L_gyes rfl rfl ?_
        refine L_y (y_move rfl) rfl ?_
        refine L_gyes rfl rfl ?_
        refine L_y (y_move rfl) rfl ?_
        refine L_gyes rfl rfl ?_
        refine L_y (y_conv is3 Try.underlying27 rfl (u64w (by omega))) rfl ?_
        refine L_gyes rfl rfl ?_
        refine L_y (y_gtr rfl rfl) rfl ?_
        refine L_gyes rfl rfl ?_
        refine L_y (y_pk rfl rfl) rfl ?_
        refine L_y (y_pk rfl rfl) rfl ?_
        refine L_nil ?_
        refine hK7 _ _ ?_
        refine T_cond rfl (fun h31 => ?_) (fun h31 => ?_)
        ·
          refine T_region ?_
          refine L_y (y_assign rfl) rfl ?_
          refine L_nil ?_
          refine hK6 _ _ ?_
          refine T_seq fun K31 hK31 => ?_
          refine T_seq fun K32 hK32 => ?_
          refine T_drawnL [(0, true), (1, true), (2, true), (3, true), (4, true), (5, true), (6, true), (7, true), (8, true), (9, true), (10, true), (11, true), (12, true), (13, true), (14, true), (15, true), (16, true), (17, true), (18, true)] hmix (by kernel_rfl) fun w14 l14 => ?_
          have S14 := S1.like l14
          refine DL_y rfl (y_move rfl) rfl ?_
          refine DL_y rfl (y_eql rfl rfl) rfl ?_
          refine DL_y rfl (y_move rfl) rfl ?_
          refine DL_split 34 rfl (fun h34 => ?_) (fun h34 => ?_)
          ·
            refine DL_gyes rfl rfl rfl (y_move rfl) rfl ?_
            refine DL_gyes rfl rfl rfl (y_move rfl) rfl ?_
            refine DL_gyes rfl rfl rfl (y_nilp rfl) rfl ?_
            refine DL_gyes rfl rfl rfl (y_fieldA 0 Try.underlying48 rfl sz25 rfl rfl rfl) rfl ?_
            refine DL_gyes rfl rfl rfl (y_ldc Try.underlying25 rfl rfl (((S14.blk 0 rfl).cell _).trans (by rfl))) rfl ?_
            refine DL_gyes rfl rfl rfl (y_len Try.underlying25 rfl) rfl ?_
            refine DL_gyes rfl rfl rfl (y_move rfl) rfl ?_
            refine DL_gyes rfl rfl rfl (y_nilp rfl) rfl ?_
            refine DL_gyes rfl rfl rfl (y_fieldA 1 Try.underlying48 rfl sz3 rfl rfl rfl) rfl ?_
            refine DL_gyes rfl rfl rfl (y_ldc Try.underlying3 rfl rfl (((S14.blk 0 rfl).cell _).trans (by rfl))) rfl ?_
            refine DL_gyes rfl rfl rfl (y_sub rfl rfl (i64w (by omega))) rfl ?_
            refine DL_gyes rfl rfl rfl (y_move rfl) rfl ?_
            refine DL_gyes rfl rfl rfl (y_sub rfl rfl (i64w (by omega))) rfl ?_
            refine DL_gyes rfl rfl rfl (y_conv is3 Try.underlying27 rfl (u64w (by omega))) rfl ?_
            refine DL_gyes rfl rfl rfl (y_gtr rfl rfl) rfl ?_
            refine DL_y rfl (y_pk rfl rfl) rfl ?_
            refine DL_nil ?_
            refine hK32 _ _ ?_
            refine T_cond rfl (fun h50 => ?_) (fun h50 => ?_)
            ·
              refine T_region ?_
              refine L_y (y_assign rfl) rfl ?_
              refine L_nil ?_
              refine hK31 _ _ ?_
              refine T_seq fun K33 hK33 => ?_
              refine T_seq fun K34 hK34 => ?_
              refine T_region ?_
              refine L_y (y_move rfl) rfl ?_
              refine L_y (y_neq rfl rfl) rfl ?_
              refine L_nil ?_
              refine hK34 _ _ ?_
              refine T_cond rfl (fun h52 => ?_) (fun h52 => ?_)
              ·
                refine T_seq fun K35 hK35 => ?_
                refine T_region ?_
                refine L_y (y_move rfl) rfl ?_
                refine L_y (y_move rfl) rfl ?_
                refine L_y (y_nilp rfl) rfl ?_
                refine L_y (y_fieldA 2 Try.underlying48 rfl sz3 rfl rfl rfl) rfl ?_
                refine L_o (o_st1 S14 0 rfl rfl rfl rfl sz3 (by simp; done) fun w15 S15 => ?_)
                refine L_nil ?_
                refine hK35 _ _ ?_
                refine T_seq fun K36 hK36 => ?_
                refine T_region ?_
                refine L_y (y_assign rfl) rfl ?_
                refine L_nil ?_
                refine hK36 _ _ ?_
                refine T_ret ?_
                refine ur ?_
                refine ret1 rfl rfl ?_
                first
                | (exfalso; omega)
                | (have hO : nuN l p = (numF (l.drop p) 0 0) := nu_ok (by omega); have hV : txN l p 0 m = ([], p, 3) := (by rw [txN, if_neg (by omega), if_neg (by omega), if_pos (by rw [← hO]; omega)]); exact ⟨_, rfl, by rw [hV], by rw [hV]; exact xr_of (S15.turned1 0 rfl) rfl⟩)
              ·
                refine T_skip ?_
                refine hK33 _ _ ?_
                refine T_seq fun K37 hK37 => ?_
                refine T_drawnL [(0, true), (1, true), (2, true), (3, true), (4, true), (5, true), (6, true), (7, true), (8, true), (9, true), (10, true), (11, true), (12, true), (13, true), (14, true), (15, true), (16, true), (17, true), (18, true), (19, true), (20, true), (21, true)] hmix (by kernel_rfl) fun w16 l16 => ?_
                have S16 := S14.like l16
                refine DL_y rfl (y_move rfl) rfl ?_
                refine DL_y rfl (y_nilp rfl) rfl ?_
                refine DL_y rfl (y_fieldA 0 Try.underlying48 rfl sz25 rfl rfl rfl) rfl ?_
                refine DL_y rfl (y_ldc Try.underlying25 rfl rfl (((S16.blk 0 rfl).cell _).trans (by rfl))) rfl ?_
                refine DL_y rfl (y_move rfl) rfl ?_
                refine DL_y rfl (y_nilp rfl) rfl ?_
                refine DL_y rfl (y_fieldA 1 Try.underlying48 rfl sz3 rfl rfl rfl) rfl ?_
                refine DL_y rfl (y_ldc Try.underlying3 rfl rfl (((S16.blk 0 rfl).cell _).trans (by rfl))) rfl ?_
                refine DL_y rfl (y_move rfl) rfl ?_
                refine DL_y rfl (y_add rfl rfl (i64w (by omega))) rfl ?_
                refine DL_y rfl (y_move rfl) rfl ?_
                refine DL_y rfl (y_nilp rfl) rfl ?_
                refine DL_y rfl (y_fieldA 1 Try.underlying48 rfl sz3 rfl rfl rfl) rfl ?_
                refine DL_y rfl (y_ldc Try.underlying3 rfl rfl (((S16.blk 0 rfl).cell _).trans (by rfl))) rfl ?_
                refine DL_y rfl (y_move rfl) rfl ?_
                refine DL_y rfl (y_add rfl rfl (i64w (by omega))) rfl ?_
                refine DL_y rfl (y_move rfl) rfl ?_
                refine DL_y rfl (y_conv is27 Try.underlying3 rfl (i64w (by omega))) rfl ?_
                refine DL_y rfl (y_add rfl rfl (i64w (by omega))) rfl ?_
                refine DL_y rfl (y_slice Try.underlying25 sz5 rfl rfl rfl (Nt.mk (show _ = ((p + (nuN l p).2.1 : Nat) : Int) by omega) : Nt _ (p + (nuN l p).2.1)) (Nt.mk (show _ = ((p + (nuN l p).2.1 + (nuN l p).1 : Nat) : Int) by omega) : Nt _ (p + (nuN l p).2.1 + (nuN l p).1)) (by omega) (by omega)) rfl ?_
                refine DL_y rfl (y_bstr Try.underlying25 Try.underlying5 Try.underlying9 rfl ((S16.rdM hb hbg).cutb (l := p + (nuN l p).2.1) (u := p + (nuN l p).2.1 + (nuN l p).1) (by omega) (by omega))) rfl ?_
                refine DL_y rfl (y_assign rfl) rfl ?_
                refine DL_nil ?_
                refine hK37 _ _ ?_
                refine T_seq fun K38 hK38 => ?_
                refine T_region ?_
                refine L_y (y_move rfl) rfl ?_
                refine L_y (y_move rfl) rfl ?_
                refine L_y (y_nilp rfl) rfl ?_
                refine L_y (y_fieldA 1 Try.underlying48 rfl sz3 rfl rfl rfl) rfl ?_
                refine L_y (y_ldc Try.underlying3 rfl rfl (((S16.blk 0 rfl).cell _).trans (by rfl))) rfl ?_
                refine L_y (y_move rfl) rfl ?_
                refine L_y (y_add rfl rfl (i64w (by omega))) rfl ?_
                refine L_y (y_move rfl) rfl ?_
                refine L_y (y_conv is27 Try.underlying3 rfl (i64w (by omega))) rfl ?_
                refine L_y (y_add rfl rfl (i64w (by omega))) rfl ?_
                refine L_y (y_nilp rfl) rfl ?_
                refine L_y (y_fieldA 1 Try.underlying48 rfl sz3 rfl rfl rfl) rfl ?_
                refine L_o (o_st1 S16 0 rfl rfl rfl rfl sz3 (by simp; done) fun w17 S17 => ?_)
                refine L_nil ?_
                refine hK38 _ _ ?_
                refine T_seq fun K39 hK39 => ?_
                refine T_region ?_
                refine L_y (y_move rfl) rfl ?_
                refine L_y (y_assign rfl) rfl ?_
                refine L_nil ?_
                refine hK39 _ _ ?_
                refine T_ret ?_
                refine ur ?_
                refine ret1 rfl rfl ?_
                first
                | (exfalso; omega)
                | (have hO : nuN l p = (numF (l.drop p) 0 0) := nu_ok (by omega); have hV : txN l p 0 m = ([], p, 3) := (by rw [txN, if_neg (by omega), if_neg (by omega), if_pos (by rw [← hO]; omega)]); exact ⟨_, rfl, by rw [hV], by rw [hV]; exact xr_of (S17.turned1 0 rfl) rfl⟩)
            ·
              refine T_skip ?_
              refine hK31 _ _ ?_
              refine T_seq fun K40 hK40 => ?_
              refine T_seq fun K41 hK41 => ?_
              refine T_region ?_
              refine L_y (y_move rfl) rfl ?_
              refine L_y (y_neq rfl rfl) rfl ?_
              refine L_nil ?_
              refine hK41 _ _ ?_
              refine T_cond rfl (fun h52 => ?_) (fun h52 => ?_)
              ·
                refine T_seq fun K42 hK42 => ?_
                refine T_region ?_
                refine L_y (y_move rfl) rfl ?_
                refine L_y (y_move rfl) rfl ?_
                refine L_y (y_nilp rfl) rfl ?_
                refine L_y (y_fieldA 2 Try.underlying48 rfl sz3 rfl rfl rfl) rfl ?_
                refine L_o (o_st1 S14 0 rfl rfl rfl rfl sz3 (by simp; done) fun w18 S18 => ?_)
                refine L_nil ?_
                refine hK42 _ _ ?_
                refine T_seq fun K43 hK43 => ?_
                refine T_region ?_
                refine L_y (y_assign rfl) rfl ?_
                refine L_nil ?_
                refine hK43 _ _ ?_
                refine T_ret ?_
                refine ur ?_
                refine ret1 rfl rfl ?_
                first
                | (exfalso; omega)
                | (have hO : nuN l p = (numF (l.drop p) 0 0) := nu_ok (by omega); have hV : txN l p 0 m = ([], p, 3) := (by rw [txN, if_neg (by omega), if_neg (by omega), if_pos (by rw [← hO]; omega)]); exact ⟨_, rfl, by rw [hV], by rw [hV]; exact xr_of (S18.turned1 0 rfl) rfl⟩)
              ·
                refine T_skip ?_
                refine hK40 _ _ ?_
                refine T_seq fun K44 hK44 => ?_
                refine T_drawnL [(0, true), (1, true), (2, true), (3, true), (4, true), (5, true), (6, true), (7, true), (8, true), (9, true), (10, true), (11, true), (12, true), (13, true), (14, true), (15, true), (16, true), (17, true), (18, true), (19, true), (20, true), (21, true)] hmix (by kernel_rfl) fun w19 l19 => ?_
                have S19 := S14.like l19
                refine DL_y rfl (y_move rfl) rfl ?_
                refine DL_y rfl (y_nilp rfl) rfl ?_
                refine DL_y rfl (y_fieldA 0 Try.underlying48 rfl sz25 rfl rfl rfl) rfl ?_
                refine DL_y rfl (y_ldc Try.underlying25 rfl rfl (((S19.blk 0 rfl).cell _).trans (by rfl))) rfl ?_
                refine DL_y rfl (y_move rfl) rfl ?_
                refine DL_y rfl (y_nilp rfl) rfl ?_
                refine DL_y rfl (y_fieldA 1 Try.underlying48 rfl sz3 rfl rfl rfl) rfl ?_
                refine DL_y rfl (y_ldc Try.underlying3 rfl rfl (((S19.blk 0 rfl).cell _).trans (by rfl))) rfl ?_
                refine DL_y rfl (y_move rfl) rfl ?_
                refine DL_y rfl (y_add rfl rfl (i64w (by omega))) rfl ?_
                refine DL_y rfl (y_move rfl) rfl ?_
                refine DL_y rfl (y_nilp rfl) rfl ?_
                refine DL_y rfl (y_fieldA 1 Try.underlying48 rfl sz3 rfl rfl rfl) rfl ?_
                refine DL_y rfl (y_ldc Try.underlying3 rfl rfl (((S19.blk 0 rfl).cell _).trans (by rfl))) rfl ?_
                refine DL_y rfl (y_move rfl) rfl ?_
                refine DL_y rfl (y_add rfl rfl (i64w (by omega))) rfl ?_
                refine DL_y rfl (y_move rfl) rfl ?_
                refine DL_y rfl (y_conv is27 Try.underlying3 rfl (i64w (by omega))) rfl ?_
                refine DL_y rfl (y_add rfl rfl (i64w (by omega))) rfl ?_
                refine DL_y rfl (y_slice Try.underlying25 sz5 rfl rfl rfl (Nt.mk (show _ = ((p + (nuN l p).2.1 : Nat) : Int) by omega) : Nt _ (p + (nuN l p).2.1)) (Nt.mk (show _ = ((p + (nuN l p).2.1 + (nuN l p).1 : Nat) : Int) by omega) : Nt _ (p + (nuN l p).2.1 + (nuN l p).1)) (by omega) (by omega)) rfl ?_
                refine DL_y rfl (y_bstr Try.underlying25 Try.underlying5 Try.underlying9 rfl ((S19.rdM hb hbg).cutb (l := p + (nuN l p).2.1) (u := p + (nuN l p).2.1 + (nuN l p).1) (by omega) (by omega))) rfl ?_
                refine DL_y rfl (y_assign rfl) rfl ?_
                refine DL_nil ?_
                refine hK44 _ _ ?_
                refine T_seq fun K45 hK45 => ?_
                refine T_region ?_
                refine L_y (y_move rfl) rfl ?_
                refine L_y (y_move rfl) rfl ?_
                refine L_y (y_nilp rfl) rfl ?_
                refine L_y (y_fieldA 1 Try.underlying48 rfl sz3 rfl rfl rfl) rfl ?_
                refine L_y (y_ldc Try.underlying3 rfl rfl (((S19.blk 0 rfl).cell _).trans (by rfl))) rfl ?_
                refine L_y (y_move rfl) rfl ?_
                refine L_y (y_add rfl rfl (i64w (by omega))) rfl ?_
                refine L_y (y_move rfl) rfl ?_
                refine L_y (y_conv is27 Try.underlying3 rfl (i64w (by omega))) rfl ?_
                refine L_y (y_add rfl rfl (i64w (by omega))) rfl ?_
                refine L_y (y_nilp rfl) rfl ?_
                refine L_y (y_fieldA 1 Try.underlying48 rfl sz3 rfl rfl rfl) rfl ?_
                refine L_o (o_st1 S19 0 rfl rfl rfl rfl sz3 (by simp; done) fun w20 S20 => ?_)
                refine L_nil ?_
                refine hK45 _ _ ?_
                refine T_seq fun K46 hK46 => ?_
                refine T_region ?_
                refine L_y (y_move rfl) rfl ?_
                refine L_y (y_assign rfl) rfl ?_
                refine L_nil ?_
                refine hK46 _ _ ?_
                refine T_ret ?_
                refine ur ?_
                refine ret1 rfl rfl ?_
                first
                | (exfalso; omega)
                | (have hO : nuN l p = (numF (l.drop p) 0 0) := nu_ok (by omega); have hV : txN l p 0 m = ([], p, 3) := (by rw [txN, if_neg (by omega), if_neg (by omega), if_pos (by rw [← hO]; omega)]); exact ⟨_, rfl, by rw [hV], by rw [hV]; exact xr_of (S20.turned1 0 rfl) rfl⟩)
          ·
            refine DL_gno rfl rfl rfl rfl ?_
            refine DL_gno rfl rfl rfl rfl ?_
            refine DL_gno rfl rfl rfl rfl ?_
            refine DL_gno rfl rfl rfl rfl ?_
            refine DL_gno rfl rfl rfl rfl ?_
            refine DL_gno rfl rfl rfl rfl ?_
            refine DL_gno rfl rfl rfl rfl ?_
            refine DL_gno rfl rfl rfl rfl ?_
            refine DL_gno rfl rfl rfl rfl ?_
            refine DL_gno rfl rfl rfl rfl ?_
            refine DL_gno rfl rfl rfl rfl ?_
            refine DL_gno rfl rfl rfl rfl ?_
            refine DL_gno rfl rfl rfl rfl ?_
            refine DL_gno rfl rfl rfl rfl ?_
            refine DL_gno rfl rfl rfl rfl ?_
            refine DL_y rfl (y_pk rfl rfl) rfl ?_
            refine DL_nil ?_
            refine hK32 _ _ ?_
            refine T_false rfl ?_
            refine T_skip ?_
            refine hK31 _ _ ?_
            refine T_seq fun K47 hK47 => ?_
            refine T_seq fun K48 hK48 => ?_
            refine T_region ?_
            refine L_y (y_move rfl) rfl ?_
            refine L_y (y_neq rfl rfl) rfl ?_
            refine L_nil ?_
            refine hK48 _ _ ?_
            refine T_cond rfl (fun h52 => ?_) (fun h52 => ?_)
            ·
              refine T_seq fun K49 hK49 => ?_
              refine T_region ?_
              refine L_y (y_move rfl) rfl ?_
              refine L_y (y_move rfl) rfl ?_
              refine L_y (y_nilp rfl) rfl ?_
              refine L_y (y_fieldA 2 Try.underlying48 rfl sz3 rfl rfl rfl) rfl ?_
              refine L_o (o_st1 S14 0 rfl rfl rfl rfl sz3 (by simp; done) fun w21 S21 => ?_)
              refine L_nil ?_
              refine hK49 _ _ ?_
              refine T_seq fun K50 hK50 => ?_
              refine T_region ?_
              refine L_y (y_assign rfl) rfl ?_
              refine L_nil ?_
              refine hK50 _ _ ?_
              refine T_ret ?_
              refine ur ?_
              refine ret1 rfl rfl ?_
              first
              | (exfalso; omega)
              | (have hO : nuN l p = (numF (l.drop p) 0 0) := nu_ok (by omega); have hV : txN l p 0 m = ([], p, 3) := (by rw [txN, if_neg (by omega), if_neg (by omega), if_pos (by rw [← hO]; omega)]); exact ⟨_, rfl, by rw [hV], by rw [hV]; exact xr_of (S21.turned1 0 rfl) rfl⟩)
            ·
              refine T_skip ?_
              refine hK47 _ _ ?_
              refine T_seq fun K51 hK51 => ?_
              refine T_drawnL [(0, true), (1, true), (2, true), (3, true), (4, true), (5, true), (6, true), (7, true), (8, true), (9, true), (10, true), (11, true), (12, true), (13, true), (14, true), (15, true), (16, true), (17, true), (18, true), (19, true), (20, true), (21, true)] hmix (by kernel_rfl) fun w22 l22 => ?_
              have S22 := S14.like l22
              refine DL_y rfl (y_move rfl) rfl ?_
              refine DL_y rfl (y_nilp rfl) rfl ?_
              refine DL_y rfl (y_fieldA 0 Try.underlying48 rfl sz25 rfl rfl rfl) rfl ?_
              refine DL_y rfl (y_ldc Try.underlying25 rfl rfl (((S22.blk 0 rfl).cell _).trans (by rfl))) rfl ?_
              refine DL_y rfl (y_move rfl) rfl ?_
              refine DL_y rfl (y_nilp rfl) rfl ?_
              refine DL_y rfl (y_fieldA 1 Try.underlying48 rfl sz3 rfl rfl rfl) rfl ?_
              refine DL_y rfl (y_ldc Try.underlying3 rfl rfl (((S22.blk 0 rfl).cell _).trans (by rfl))) rfl ?_
              refine DL_y rfl (y_move rfl) rfl ?_
              refine DL_y rfl (y_add rfl rfl (i64w (by omega))) rfl ?_
              refine DL_y rfl (y_move rfl) rfl ?_
              refine DL_y rfl (y_nilp rfl) rfl ?_
              refine DL_y rfl (y_fieldA 1 Try.underlying48 rfl sz3 rfl rfl rfl) rfl ?_
              refine DL_y rfl (y_ldc Try.underlying3 rfl rfl (((S22.blk 0 rfl).cell _).trans (by rfl))) rfl ?_
              refine DL_y rfl (y_move rfl) rfl ?_
              refine DL_y rfl (y_add rfl rfl (i64w (by omega))) rfl ?_
              refine DL_y rfl (y_move rfl) rfl ?_
              refine DL_y rfl (y_conv is27 Try.underlying3 rfl (i64w (by omega))) rfl ?_
              refine DL_y rfl (y_add rfl rfl (i64w (by omega))) rfl ?_
              refine DL_y rfl (y_slice Try.underlying25 sz5 rfl rfl rfl (Nt.mk (show _ = ((p + (nuN l p).2.1 : Nat) : Int) by omega) : Nt _ (p + (nuN l p).2.1)) (Nt.mk (show _ = ((p + (nuN l p).2.1 + (nuN l p).1 : Nat) : Int) by omega) : Nt _ (p + (nuN l p).2.1 + (nuN l p).1)) (by omega) (by omega)) rfl ?_
              refine DL_y rfl (y_bstr Try.underlying25 Try.underlying5 Try.underlying9 rfl ((S22.rdM hb hbg).cutb (l := p + (nuN l p).2.1) (u := p + (nuN l p).2.1 + (nuN l p).1) (by omega) (by omega))) rfl ?_
              refine DL_y rfl (y_assign rfl) rfl ?_
              refine DL_nil ?_
              refine hK51 _ _ ?_
              refine T_seq fun K52 hK52 => ?_
              refine T_region ?_
              refine L_y (y_move rfl) rfl ?_
              refine L_y (y_move rfl) rfl ?_
              refine L_y (y_nilp rfl) rfl ?_
              refine L_y (y_fieldA 1 Try.underlying48 rfl sz3 rfl rfl rfl) rfl ?_
              refine L_y (y_ldc Try.underlying3 rfl rfl (((S22.blk 0 rfl).cell _).trans (by rfl))) rfl ?_
              refine L_y (y_move rfl) rfl ?_
              refine L_y (y_add rfl rfl (i64w (by omega))) rfl ?_
              refine L_y (y_move rfl) rfl ?_
              refine L_y (y_conv is27 Try.underlying3 rfl (i64w (by omega))) rfl ?_
              refine L_y (y_add rfl rfl (i64w (by omega))) rfl ?_
              refine L_y (y_nilp rfl) rfl ?_
              refine L_y (y_fieldA 1 Try.underlying48 rfl sz3 rfl rfl rfl) rfl ?_
              refine L_o (o_st1 S22 0 rfl rfl rfl rfl sz3 (by simp; done) fun w23 S23 => ?_)
              refine L_nil ?_
              refine hK52 _ _ ?_
              refine T_seq fun K53 hK53 => ?_
              refine T_region ?_
              refine L_y (y_move rfl) rfl ?_
              refine L_y (y_assign rfl) rfl ?_
              refine L_nil ?_
              refine hK53 _ _ ?_
              refine T_ret ?_
              refine ur ?_
              refine ret1 rfl rfl ?_
              first
              | (exfalso; omega)
              | (have hO : nuN l p = (numF (l.drop p) 0 0) := nu_ok (by omega); have hV : txN l p 0 m = ([], p, 3) := (by rw [txN, if_neg (by omega), if_neg (by omega), if_pos (by rw [← hO]; omega)]); exact ⟨_, rfl, by rw [hV], by rw [hV]; exact xr_of (S23.turned1 0 rfl) rfl⟩)
        ·
          refine T_skip ?_
          refine hK6 _ _ ?_
          refine T_seq fun K54 hK54 => ?_
          refine T_seq fun K55 hK55 => ?_
          refine T_drawnL [(0, true), (1, true), (2, true), (3, true), (4, true), (5, true), (6, true), (7, true), (8, true), (9, true), (10, true), (11, true), (12, true), (13, true), (14, true), (15, true), (16, true), (17, true), (18, true)] hmix (by kernel_rfl) fun w24 l24 => ?_
          have S24 := S1.like l24
          refine DL_y rfl (y_move rfl) rfl ?_
          refine DL_y rfl (y_eql rfl rfl) rfl ?_
          refine DL_y rfl (y_move rfl) rfl ?_
          refine DL_split 34 rfl (fun h34 => ?_) (fun h34 => ?_)
          ·
            refine DL_gyes rfl rfl rfl (y_move rfl) rfl ?_
            refine DL_gyes rfl rfl rfl (y_move rfl) rfl ?_
            refine DL_gyes rfl rfl rfl (y_nilp rfl) rfl ?_
            refine DL_gyes rfl rfl rfl (y_fieldA 0 Try.underlying48 rfl sz25 rfl rfl rfl) rfl ?_
            refine DL_gyes rfl rfl rfl (y_ldc Try.underlying25 rfl rfl (((S24.blk 0 rfl).cell _).trans (by rfl))) rfl ?_
            refine DL_gyes rfl rfl rfl (y_len Try.underlying25 rfl) rfl ?_
            refine DL_gyes rfl rfl rfl (y_move rfl) rfl ?_
            refine DL_gyes rfl rfl rfl (y_nilp rfl) rfl ?_
            refine DL_gyes rfl rfl rfl (y_fieldA 1 Try.underlying48 rfl sz3 rfl rfl rfl) rfl ?_
            refine DL_gyes rfl rfl rfl (y_ldc Try.underlying3 rfl rfl (((S24.blk 0 rfl).cell _).trans (by rfl))) rfl ?_
            refine DL_gyes rfl rfl rfl (y_sub rfl rfl (i64w (by omega))) rfl ?_
            refine DL_gyes rfl rfl rfl (y_move rfl) rfl ?_
            refine DL_gyes rfl rfl rfl (y_sub rfl rfl (i64w (by omega))) rfl ?_
            refine DL_gyes rfl rfl rfl (y_conv is3 Try.underlying27 rfl (u64w (by omega))) rfl ?_
            refine DL_gyes rfl rfl rfl (y_gtr rfl rfl) rfl ?_
            refine DL_y rfl (y_pk rfl rfl) rfl ?_
            refine DL_nil ?_
            refine hK55 _ _ ?_
            refine T_cond rfl (fun h50 => ?_) (fun h50 => ?_)
            ·
              refine T_region ?_
              refine L_y (y_assign rfl) rfl ?_
              refine L_nil ?_
              refine hK54 _ _ ?_
              refine T_seq fun K56 hK56 => ?_
              refine T_seq fun K57 hK57 => ?_
              refine T_region ?_
              refine L_y (y_move rfl) rfl ?_
              refine L_y (y_neq rfl rfl) rfl ?_
              refine L_nil ?_
              refine hK57 _ _ ?_
              refine T_cond rfl (fun h52 => ?_) (fun h52 => ?_)
              ·
                refine T_seq fun K58 hK58 => ?_
                refine T_region ?_
                refine L_y (y_move rfl) rfl ?_
                refine L_y (y_move rfl) rfl ?_
                refine L_y (y_nilp rfl) rfl ?_
                refine L_y (y_fieldA 2 Try.underlying48 rfl sz3 rfl rfl rfl) rfl ?_
                refine L_o (o_st1 S24 0 rfl rfl rfl rfl sz3 (by simp; done) fun w25 S25 => ?_)
                refine L_nil ?_
                refine hK58 _ _ ?_
                refine T_seq fun K59 hK59 => ?_
                refine T_region ?_
                refine L_y (y_assign rfl) rfl ?_
                refine L_nil ?_
                refine hK59 _ _ ?_
                refine T_ret ?_
                refine ur ?_
                refine ret1 rfl rfl ?_
                first
                | (exfalso; omega)
                | (have hO : nuN l p = (numF (l.drop p) 0 0) := nu_ok (by omega); have hV : txN l p 0 m = ([], p, 10) := (by rw [txN, if_neg (by omega), if_neg (by omega), if_neg (by rw [← hO]; omega), if_neg (by rw [← hO]; omega)]); exact ⟨_, rfl, by rw [hV], by rw [hV]; exact xr_of (S25.turned1 0 rfl) rfl⟩)
              ·
                refine T_skip ?_
                refine hK56 _ _ ?_
                refine T_seq fun K60 hK60 => ?_
                refine T_drawnL [(0, true), (1, true), (2, true), (3, true), (4, true), (5, true), (6, true), (7, true), (8, true), (9, true), (10, true), (11, true), (12, true), (13, true), (14, true), (15, true), (16, true), (17, true), (18, true), (19, true), (20, true), (21, true)] hmix (by kernel_rfl) fun w26 l26 => ?_
                have S26 := S24.like l26
                refine DL_y rfl (y_move rfl) rfl ?_
                refine DL_y rfl (y_nilp rfl) rfl ?_
                refine DL_y rfl (y_fieldA 0 Try.underlying48 rfl sz25 rfl rfl rfl) rfl ?_
                refine DL_y rfl (y_ldc Try.underlying25 rfl rfl (((S26.blk 0 rfl).cell _).trans (by rfl))) rfl ?_
                refine DL_y rfl (y_move rfl) rfl ?_
                refine DL_y rfl (y_nilp rfl) rfl ?_
                refine DL_y rfl (y_fieldA 1 Try.underlying48 rfl sz3 rfl rfl rfl) rfl ?_
                refine DL_y rfl (y_ldc Try.underlying3 rfl rfl (((S26.blk 0 rfl).cell _).trans (by rfl))) rfl ?_
                refine DL_y rfl (y_move rfl) rfl ?_
                refine DL_y rfl (y_add rfl rfl (i64w (by omega))) rfl ?_
                refine DL_y rfl (y_move rfl) rfl ?_
                refine DL_y rfl (y_nilp rfl) rfl ?_
                refine DL_y rfl (y_fieldA 1 Try.underlying48 rfl sz3 rfl rfl rfl) rfl ?_
                refine DL_y rfl (y_ldc Try.underlying3 rfl rfl (((S26.blk 0 rfl).cell _).trans (by rfl))) rfl ?_
                refine DL_y rfl (y_move rfl) rfl ?_
                refine DL_y rfl (y_add rfl rfl (i64w (by omega))) rfl ?_
                refine DL_y rfl (y_move rfl) rfl ?_
                refine DL_y rfl (y_conv is27 Try.underlying3 rfl (i64w (by omega))) rfl ?_
                refine DL_y rfl (y_add rfl rfl (i64w (by omega))) rfl ?_
                refine DL_y rfl (y_slice Try.underlying25 sz5 rfl rfl rfl (Nt.mk (show _ = ((p + (nuN l p).2.1 : Nat) : Int) by omega) : Nt _ (p + (nuN l p).2.1)) (Nt.mk (show _ = ((p + (nuN l p).2.1 + (nuN l p).1 : Nat) : Int) by omega) : Nt _ (p + (nuN l p).2.1 + (nuN l p).1)) (by omega) (by omega)) rfl ?_
                refine DL_y rfl (y_bstr Try.underlying25 Try.underlying5 Try.underlying9 rfl ((S26.rdM hb hbg).cutb (l := p + (nuN l p).2.1) (u := p + (nuN l p).2.1 + (nuN l p).1) (by omega) (by omega))) rfl ?_
                refine DL_y rfl (y_assign rfl) rfl ?_
                refine DL_nil ?_
                refine hK60 _ _ ?_
                refine T_seq fun K61 hK61 => ?_
                refine T_region ?_
                refine L_y (y_move rfl) rfl ?_
                refine L_y (y_move rfl) rfl ?_
                refine L_y (y_nilp rfl) rfl ?_
                refine L_y (y_fieldA 1 Try.underlying48 rfl sz3 rfl rfl rfl) rfl ?_
                refine L_y (y_ldc Try.underlying3 rfl rfl (((S26.blk 0 rfl).cell _).trans (by rfl))) rfl ?_
                refine L_y (y_move rfl) rfl ?_
                refine L_y (y_add rfl rfl (i64w (by omega))) rfl ?_
                refine L_y (y_move rfl) rfl ?_
                refine L_y (y_conv is27 Try.underlying3 rfl (i64w (by omega))) rfl ?_
                refine L_y (y_add rfl rfl (i64w (by omega))) rfl ?_
                refine L_y (y_nilp rfl) rfl ?_
                refine L_y (y_fieldA 1 Try.underlying48 rfl sz3 rfl rfl rfl) rfl ?_
                refine L_o (o_st1 S26 0 rfl rfl rfl rfl sz3 (by simp; done) fun w27 S27 => ?_)
                refine L_nil ?_
                refine hK61 _ _ ?_
                refine T_seq fun K62 hK62 => ?_
                refine T_region ?_
                refine L_y (y_move rfl) rfl ?_
                refine L_y (y_assign rfl) rfl ?_
                refine L_nil ?_
                refine hK62 _ _ ?_
                refine T_ret ?_
                refine ur ?_
                refine ret1 rfl rfl ?_
                first
                | (exfalso; omega)
                | (have hO : nuN l p = (numF (l.drop p) 0 0) := nu_ok (by omega); have hV : txN l p 0 m = ([], p, 10) := (by rw [txN, if_neg (by omega), if_neg (by omega), if_neg (by rw [← hO]; omega), if_neg (by rw [← hO]; omega)]); exact ⟨_, rfl, by rw [hV], by rw [hV]; exact xr_of (S27.turned1 0 rfl) rfl⟩)
            ·
              refine T_skip ?_
              refine hK54 _ _ ?_
              refine T_seq fun K63 hK63 => ?_
              refine T_seq fun K64 hK64 => ?_
              refine T_region ?_
              refine L_y (y_move rfl) rfl ?_
              refine L_y (y_neq rfl rfl) rfl ?_
              refine L_nil ?_
              refine hK64 _ _ ?_
              refine T_cond rfl (fun h52 => ?_) (fun h52 => ?_)
              ·
                refine T_seq fun K65 hK65 => ?_
                refine T_region ?_
                refine L_y (y_move rfl) rfl ?_
                refine L_y (y_move rfl) rfl ?_
                refine L_y (y_nilp rfl) rfl ?_
                refine L_y (y_fieldA 2 Try.underlying48 rfl sz3 rfl rfl rfl) rfl ?_
                refine L_o (o_st1 S24 0 rfl rfl rfl rfl sz3 (by simp; done) fun w28 S28 => ?_)
                refine L_nil ?_
                refine hK65 _ _ ?_
                refine T_seq fun K66 hK66 => ?_
                refine T_region ?_
                refine L_y (y_assign rfl) rfl ?_
                refine L_nil ?_
                refine hK66 _ _ ?_
                refine T_ret ?_
                refine ur ?_
                refine ret1 rfl rfl ?_
                first
                | (exfalso; omega)
                | (have hO : nuN l p = (numF (l.drop p) 0 0) := nu_ok (by omega); have hV : txN l p 0 m = (tkL l (p + (nuN l p).2.1) (nuN l p).1, p + (nuN l p).2.1 + (nuN l p).1, 0) := (by rw [hO, txN, if_neg (by omega), if_neg (by omega), if_neg (by rw [← hO]; omega), if_pos (by rw [← hO]; omega)]); have e6 : tkL l (p + (nuN l p).2.1) (nuN l p).1 = (l.drop (p + (nuN l p).2.1)).take (p + (nuN l p).2.1 + (nuN l p).1 - (p + (nuN l p).2.1)) := (by rw [tkL, if_pos (by omega)]; congr 1; omega); exact ⟨_, rfl, by rw [hV]; exact congrArg (fun z : List UInt8 => Value.string ⟨z.toArray⟩) e6.symm, by rw [hV]; exact xr_of (S28.turned1 0 rfl) rfl⟩)
              ·
                refine T_skip ?_
                refine hK63 _ _ ?_
                refine T_seq fun K67 hK67 => ?_
                refine T_drawnL [(0, true), (1, true), (2, true), (3, true), (4, true), (5, true), (6, true), (7, true), (8, true), (9, true), (10, true), (11, true), (12, true), (13, true), (14, true), (15, true), (16, true), (17, true), (18, true), (19, true), (20, true), (21, true)] hmix (by kernel_rfl) fun w29 l29 => ?_
                have S29 := S24.like l29
                refine DL_y rfl (y_move rfl) rfl ?_
                refine DL_y rfl (y_nilp rfl) rfl ?_
                refine DL_y rfl (y_fieldA 0 Try.underlying48 rfl sz25 rfl rfl rfl) rfl ?_
                refine DL_y rfl (y_ldc Try.underlying25 rfl rfl (((S29.blk 0 rfl).cell _).trans (by rfl))) rfl ?_
                refine DL_y rfl (y_move rfl) rfl ?_
                refine DL_y rfl (y_nilp rfl) rfl ?_
                refine DL_y rfl (y_fieldA 1 Try.underlying48 rfl sz3 rfl rfl rfl) rfl ?_
                refine DL_y rfl (y_ldc Try.underlying3 rfl rfl (((S29.blk 0 rfl).cell _).trans (by rfl))) rfl ?_
                refine DL_y rfl (y_move rfl) rfl ?_
                refine DL_y rfl (y_add rfl rfl (i64w (by omega))) rfl ?_
                refine DL_y rfl (y_move rfl) rfl ?_
                refine DL_y rfl (y_nilp rfl) rfl ?_
                refine DL_y rfl (y_fieldA 1 Try.underlying48 rfl sz3 rfl rfl rfl) rfl ?_
                refine DL_y rfl (y_ldc Try.underlying3 rfl rfl (((S29.blk 0 rfl).cell _).trans (by rfl))) rfl ?_
                refine DL_y rfl (y_move rfl) rfl ?_
                refine DL_y rfl (y_add rfl rfl (i64w (by omega))) rfl ?_
                refine DL_y rfl (y_move rfl) rfl ?_
                refine DL_y rfl (y_conv is27 Try.underlying3 rfl (i64w (by omega))) rfl ?_
                refine DL_y rfl (y_add rfl rfl (i64w (by omega))) rfl ?_
                refine DL_y rfl (y_slice Try.underlying25 sz5 rfl rfl rfl (Nt.mk (show _ = ((p + (nuN l p).2.1 : Nat) : Int) by omega) : Nt _ (p + (nuN l p).2.1)) (Nt.mk (show _ = ((p + (nuN l p).2.1 + (nuN l p).1 : Nat) : Int) by omega) : Nt _ (p + (nuN l p).2.1 + (nuN l p).1)) (by omega) (by omega)) rfl ?_
                refine DL_y rfl (y_bstr Try.underlying25 Try.underlying5 Try.underlying9 rfl ((S29.rdM hb hbg).cutb (l := p + (nuN l p).2.1) (u := p + (nuN l p).2.1 + (nuN l p).1) (by omega) (by omega))) rfl ?_
                refine DL_y rfl (y_assign rfl) rfl ?_
                refine DL_nil ?_
                refine hK67 _ _ ?_
                refine T_seq fun K68 hK68 => ?_
                refine T_region ?_
                refine L_y (y_move rfl) rfl ?_
                refine L_y (y_move rfl) rfl ?_
                refine L_y (y_nilp rfl) rfl ?_
                refine L_y (y_fieldA 1 Try.underlying48 rfl sz3 rfl rfl rfl) rfl ?_
                refine L_y (y_ldc Try.underlying3 rfl rfl (((S29.blk 0 rfl).cell _).trans (by rfl))) rfl ?_
                refine L_y (y_move rfl) rfl ?_
                refine L_y (y_add rfl rfl (i64w (by omega))) rfl ?_
                refine L_y (y_move rfl) rfl ?_
                refine L_y (y_conv is27 Try.underlying3 rfl (i64w (by omega))) rfl ?_
                refine L_y (y_add rfl rfl (i64w (by omega))) rfl ?_
                refine L_y (y_nilp rfl) rfl ?_
                refine L_y (y_fieldA 1 Try.underlying48 rfl sz3 rfl rfl rfl) rfl ?_
                refine L_o (o_st1 S29 0 rfl rfl rfl rfl sz3 (by simp; done) fun w30 S30 => ?_)
                refine L_nil ?_
                refine hK68 _ _ ?_
                refine T_seq fun K69 hK69 => ?_
                refine T_region ?_
                refine L_y (y_move rfl) rfl ?_
                refine L_y (y_assign rfl) rfl ?_
                refine L_nil ?_
                refine hK69 _ _ ?_
                refine T_ret ?_
                refine ur ?_
                refine ret1 rfl rfl ?_
                first
                | (exfalso; omega)
                | (have hO : nuN l p = (numF (l.drop p) 0 0) := nu_ok (by omega); have hV : txN l p 0 m = (tkL l (p + (nuN l p).2.1) (nuN l p).1, p + (nuN l p).2.1 + (nuN l p).1, 0) := (by rw [hO, txN, if_neg (by omega), if_neg (by omega), if_neg (by rw [← hO]; omega), if_pos (by rw [← hO]; omega)]); have e6 : tkL l (p + (nuN l p).2.1) (nuN l p).1 = (l.drop (p + (nuN l p).2.1)).take (p + (nuN l p).2.1 + (nuN l p).1 - (p + (nuN l p).2.1)) := (by rw [tkL, if_pos (by omega)]; congr 1; omega); exact ⟨_, rfl, by rw [hV]; exact congrArg (fun z : List UInt8 => Value.string ⟨z.toArray⟩) e6.symm, by rw [hV]; exact xr_of (S30.turned1 0 rfl) rfl⟩)
          ·
            refine DL_gno rfl rfl rfl rfl ?_
            refine DL_gno rfl rfl rfl rfl ?_
            refine DL_gno rfl rfl rfl rfl ?_
            refine DL_gno rfl rfl rfl rfl ?_
            refine DL_gno rfl rfl rfl rfl ?_
            refine DL_gno rfl rfl rfl rfl ?_
            refine DL_gno rfl rfl rfl rfl ?_
            refine DL_gno rfl rfl rfl rfl ?_
            refine DL_gno rfl rfl rfl rfl ?_
            refine DL_gno rfl rfl rfl rfl ?_
            refine DL_gno rfl rfl rfl rfl ?_
            refine DL_gno rfl rfl rfl rfl ?_
            refine DL_gno rfl rfl rfl rfl ?_
            refine DL_gno rfl rfl rfl rfl ?_
            refine DL_gno rfl rfl rfl rfl ?_
            refine DL_y rfl (y_pk rfl rfl) rfl ?_
            refine DL_nil ?_
            refine hK55 _ _ ?_
            refine T_false rfl ?_
            refine T_skip ?_
            refine hK54 _ _ ?_
            refine T_seq fun K70 hK70 => ?_
            refine T_seq fun K71 hK71 => ?_
            refine T_region ?_
            refine L_y (y_move rfl) rfl ?_
            refine L_y (y_neq rfl rfl) rfl ?_
            refine L_nil ?_
            refine hK71 _ _ ?_
            refine T_cond rfl (fun h52 => ?_) (fun h52 => ?_)
            ·
              refine T_seq fun K72 hK72 => ?_
              refine T_region ?_
              refine L_y (y_move rfl) rfl ?_
              refine L_y (y_move rfl) rfl ?_
              refine L_y (y_nilp rfl) rfl ?_
              refine L_y (y_fieldA 2 Try.underlying48 rfl sz3 rfl rfl rfl) rfl ?_
              refine L_o (o_st1 S24 0 rfl rfl rfl rfl sz3 (by simp; done) fun w31 S31 => ?_)
              refine L_nil ?_
              refine hK72 _ _ ?_
              refine T_seq fun K73 hK73 => ?_
              refine T_region ?_
              refine L_y (y_assign rfl) rfl ?_
              refine L_nil ?_
              refine hK73 _ _ ?_
              refine T_ret ?_
              refine ur ?_
              refine ret1 rfl rfl ?_
              first
              | (exfalso; omega)
              | (have hO : nuN l p = (numF (l.drop p) 0 0) := nu_ok (by omega); have hV : txN l p 0 m = (tkL l (p + (nuN l p).2.1) (nuN l p).1, p + (nuN l p).2.1 + (nuN l p).1, 0) := (by rw [hO, txN, if_neg (by omega), if_neg (by omega), if_neg (by rw [← hO]; omega), if_pos (by rw [← hO]; omega)]); have e6 : tkL l (p + (nuN l p).2.1) (nuN l p).1 = (l.drop (p + (nuN l p).2.1)).take (p + (nuN l p).2.1 + (nuN l p).1 - (p + (nuN l p).2.1)) := (by rw [tkL, if_pos (by omega)]; congr 1; omega); exact ⟨_, rfl, by rw [hV]; exact congrArg (fun z : List UInt8 => Value.string ⟨z.toArray⟩) e6.symm, by rw [hV]; exact xr_of (S31.turned1 0 rfl) rfl⟩)
            ·
              refine T_skip ?_
              refine hK70 _ _ ?_
              refine T_seq fun K74 hK74 => ?_
              refine T_drawnL [(0, true), (1, true), (2, true), (3, true), (4, true), (5, true), (6, true), (7, true), (8, true), (9, true), (10, true), (11, true), (12, true), (13, true), (14, true), (15, true), (16, true), (17, true), (18, true), (19, true), (20, true), (21, true)] hmix (by kernel_rfl) fun w32 l32 => ?_
              have S32 := S24.like l32
              refine DL_y rfl (y_move rfl) rfl ?_
              refine DL_y rfl (y_nilp rfl) rfl ?_
              refine DL_y rfl (y_fieldA 0 Try.underlying48 rfl sz25 rfl rfl rfl) rfl ?_
              refine DL_y rfl (y_ldc Try.underlying25 rfl rfl (((S32.blk 0 rfl).cell _).trans (by rfl))) rfl ?_
              refine DL_y rfl (y_move rfl) rfl ?_
              refine DL_y rfl (y_nilp rfl) rfl ?_
              refine DL_y rfl (y_fieldA 1 Try.underlying48 rfl sz3 rfl rfl rfl) rfl ?_
              refine DL_y rfl (y_ldc Try.underlying3 rfl rfl (((S32.blk 0 rfl).cell _).trans (by rfl))) rfl ?_
              refine DL_y rfl (y_move rfl) rfl ?_
              refine DL_y rfl (y_add rfl rfl (i64w (by omega))) rfl ?_
              refine DL_y rfl (y_move rfl) rfl ?_
              refine DL_y rfl (y_nilp rfl) rfl ?_
              refine DL_y rfl (y_fieldA 1 Try.underlying48 rfl sz3 rfl rfl rfl) rfl ?_
              refine DL_y rfl (y_ldc Try.underlying3 rfl rfl (((S32.blk 0 rfl).cell _).trans (by rfl))) rfl ?_
              refine DL_y rfl (y_move rfl) rfl ?_
              refine DL_y rfl (y_add rfl rfl (i64w (by omega))) rfl ?_
              refine DL_y rfl (y_move rfl) rfl ?_
              refine DL_y rfl (y_conv is27 Try.underlying3 rfl (i64w (by omega))) rfl ?_
              refine DL_y rfl (y_add rfl rfl (i64w (by omega))) rfl ?_
              refine DL_y rfl (y_slice Try.underlying25 sz5 rfl rfl rfl (Nt.mk (show _ = ((p + (nuN l p).2.1 : Nat) : Int) by omega) : Nt _ (p + (nuN l p).2.1)) (Nt.mk (show _ = ((p + (nuN l p).2.1 + (nuN l p).1 : Nat) : Int) by omega) : Nt _ (p + (nuN l p).2.1 + (nuN l p).1)) (by omega) (by omega)) rfl ?_
              refine DL_y rfl (y_bstr Try.underlying25 Try.underlying5 Try.underlying9 rfl ((S32.rdM hb hbg).cutb (l := p + (nuN l p).2.1) (u := p + (nuN l p).2.1 + (nuN l p).1) (by omega) (by omega))) rfl ?_
              refine DL_y rfl (y_assign rfl) rfl ?_
              refine DL_nil ?_
              refine hK74 _ _ ?_
              refine T_seq fun K75 hK75 => ?_
              refine T_region ?_
              refine L_y (y_move rfl) rfl ?_
              refine L_y (y_move rfl) rfl ?_
              refine L_y (y_nilp rfl) rfl ?_
              refine L_y (y_fieldA 1 Try.underlying48 rfl sz3 rfl rfl rfl) rfl ?_
              refine L_y (y_ldc Try.underlying3 rfl rfl (((S32.blk 0 rfl).cell _).trans (by rfl))) rfl ?_
              refine L_y (y_move rfl) rfl ?_
              refine L_y (y_add rfl rfl (i64w (by omega))) rfl ?_
              refine L_y (y_move rfl) rfl ?_
              refine L_y (y_conv is27 Try.underlying3 rfl (i64w (by omega))) rfl ?_
              refine L_y (y_add rfl rfl (i64w (by omega))) rfl ?_
              refine L_y (y_nilp rfl) rfl ?_
              refine L_y (y_fieldA 1 Try.underlying48 rfl sz3 rfl rfl rfl) rfl ?_
              refine L_o (o_st1 S32 0 rfl rfl rfl rfl sz3 (by simp; done) fun w33 S33 => ?_)
              refine L_nil ?_
              refine hK75 _ _ ?_
              refine T_seq fun K76 hK76 => ?_
              refine T_region ?_
              refine L_y (y_move rfl) rfl ?_
              refine L_y (y_assign rfl) rfl ?_
              refine L_nil ?_
              refine hK76 _ _ ?_
              refine T_ret ?_
              refine ur ?_
              refine ret1 rfl rfl ?_
              first
              | (exfalso; omega)
              | (have hO : nuN l p = (numF (l.drop p) 0 0) := nu_ok (by omega); have hV : txN l p 0 m = (tkL l (p + (nuN l p).2.1) (nuN l p).1, p + (nuN l p).2.1 + (nuN l p).1, 0) := (by rw [hO, txN, if_neg (by omega), if_neg (by omega), if_neg (by rw [← hO]; omega), if_pos (by rw [← hO]; omega)]); have e6 : tkL l (p + (nuN l p).2.1) (nuN l p).1 = (l.drop (p + (nuN l p).2.1)).take (p + (nuN l p).2.1 + (nuN l p).1 - (p + (nuN l p).2.1)) := (by rw [tkL, if_pos (by omega)]; congr 1; omega); exact ⟨_, rfl, by rw [hV]; exact congrArg (fun z : List UInt8 => Value.string ⟨z.toArray⟩) e6.symm, by rw [hV]; exact xr_of (S33.turned1 0 rfl) rfl⟩)
    ·
      refine L_gno rfl rfl rfl ?_
      refine L_gno rfl rfl rfl ?_
      refine L_gno rfl rfl rfl ?_
      refine L_gnu rfl rfl rfl ?_
      refine L_gnu rfl rfl rfl ?_
      refine L_gnu rfl rfl rfl ?_
      refine L_gnu rfl rfl rfl ?_
      refine L_gno rfl rfl rfl ?_
      refine L_y (y_pk rfl rfl) rfl ?_
      refine L_nil ?_
      refine hK7 _ _ ?_
      refine T_false rfl ?_
      refine T_skip ?_
      refine hK6 _ _ ?_
      refine T_seq fun K77 hK77 => ?_
      refine T_seq fun K78 hK78 => ?_
      refine T_drawnL [(0, true), (1, true), (2, true), (3, true), (4, true), (5, true), (6, true), (7, true), (8, true), (9, true), (10, true), (11, true), (12, true), (13, true), (14, true), (15, true), (16, true), (17, true), (18, true)] hmix (by kernel_rfl) fun w34 l34 => ?_
      have S34 := S1.like l34
      refine DL_y rfl (y_move rfl) rfl ?_
      refine DL_y rfl (y_eql rfl rfl) rfl ?_
      refine DL_y rfl (y_move rfl) rfl ?_
      refine DL_split 34 rfl (fun h34 => ?_) (fun h34 => ?_)
      ·
        refine DL_gyes rfl rfl rfl (y_move rfl) rfl ?_
        refine DL_gyes rfl rfl rfl (y_move rfl) rfl ?_
        refine DL_gyes rfl rfl rfl (y_nilp rfl) rfl ?_
        refine DL_gyes rfl rfl rfl (y_fieldA 0 Try.underlying48 rfl sz25 rfl rfl rfl) rfl ?_
        refine DL_gyes rfl rfl rfl (y_ldc Try.underlying25 rfl rfl (((S34.blk 0 rfl).cell _).trans (by rfl))) rfl ?_
        refine DL_gyes rfl rfl rfl (y_len Try.underlying25 rfl) rfl ?_
        refine DL_gyes rfl rfl rfl (y_move rfl) rfl ?_
        refine DL_gyes rfl rfl rfl (y_nilp rfl) rfl ?_
        refine DL_gyes rfl rfl rfl (y_fieldA 1 Try.underlying48 rfl sz3 rfl rfl rfl) rfl ?_
        refine DL_gyes rfl rfl rfl (y_ldc Try.underlying3 rfl rfl (((S34.blk 0 rfl).cell _).trans (by rfl))) rfl ?_
        refine DL_gyes rfl rfl rfl (y_sub rfl rfl (i64w (by omega))) rfl ?_
        refine DL_gyes rfl rfl rfl (y_move rfl) rfl ?_
        refine DL_gyes rfl rfl rfl (y_sub rfl rfl (i64w (by omega))) rfl ?_
        refine DL_gyes rfl rfl rfl (y_conv is3 Try.underlying27 rfl (u64w (by omega))) rfl ?_
        refine DL_gyes rfl rfl rfl (y_gtr rfl rfl) rfl ?_
        refine DL_y rfl (y_pk rfl rfl) rfl ?_
        refine DL_nil ?_
        refine hK78 _ _ ?_
        refine T_cond rfl (fun h50 => ?_) (fun h50 => ?_)
        ·
          refine T_region ?_
          refine L_y (y_assign rfl) rfl ?_
          refine L_nil ?_
          refine hK77 _ _ ?_
          refine T_seq fun K79 hK79 => ?_
          refine T_seq fun K80 hK80 => ?_
          refine T_region ?_
          refine L_y (y_move rfl) rfl ?_
          refine L_y (y_neq rfl rfl) rfl ?_
          refine L_nil ?_
          refine hK80 _ _ ?_
          refine T_cond rfl (fun h52 => ?_) (fun h52 => ?_)
          ·
            refine T_seq fun K81 hK81 => ?_
            refine T_region ?_
            refine L_y (y_move rfl) rfl ?_
            refine L_y (y_move rfl) rfl ?_
            refine L_y (y_nilp rfl) rfl ?_
            refine L_y (y_fieldA 2 Try.underlying48 rfl sz3 rfl rfl rfl) rfl ?_
            refine L_o (o_st1 S34 0 rfl rfl rfl rfl sz3 (by simp; done) fun w35 S35 => ?_)
            refine L_nil ?_
            refine hK81 _ _ ?_
            refine T_seq fun K82 hK82 => ?_
            refine T_region ?_
            refine L_y (y_assign rfl) rfl ?_
            refine L_nil ?_
            refine hK82 _ _ ?_
            refine T_ret ?_
            refine ur ?_
            refine ret1 rfl rfl ?_
            first
            | (exfalso; omega)
            | (have hV : txN l p 0 m = ([], p, (nuN l p).2.2) := (by rw [txN, if_neg (by omega), if_pos (by omega), hE]); exact ⟨_, rfl, by rw [hV], by rw [hV]; exact xr_of (S35.turned1 0 rfl) rfl⟩)
          ·
            refine T_skip ?_
            refine hK79 _ _ ?_
            refine T_seq fun K83 hK83 => ?_
            refine T_drawnL [(0, true), (1, true), (2, true), (3, true), (4, true), (5, true), (6, true), (7, true), (8, true), (9, true), (10, true), (11, true), (12, true), (13, true), (14, true), (15, true), (16, true), (17, true), (18, true), (19, true), (20, true), (21, true)] hmix (by kernel_rfl) fun w36 l36 => ?_
            have S36 := S34.like l36
            refine DL_y rfl (y_move rfl) rfl ?_
            refine DL_y rfl (y_nilp rfl) rfl ?_
            refine DL_y rfl (y_fieldA 0 Try.underlying48 rfl sz25 rfl rfl rfl) rfl ?_
            refine DL_y rfl (y_ldc Try.underlying25 rfl rfl (((S36.blk 0 rfl).cell _).trans (by rfl))) rfl ?_
            refine DL_y rfl (y_move rfl) rfl ?_
            refine DL_y rfl (y_nilp rfl) rfl ?_
            refine DL_y rfl (y_fieldA 1 Try.underlying48 rfl sz3 rfl rfl rfl) rfl ?_
            refine DL_y rfl (y_ldc Try.underlying3 rfl rfl (((S36.blk 0 rfl).cell _).trans (by rfl))) rfl ?_
            refine DL_y rfl (y_move rfl) rfl ?_
            refine DL_y rfl (y_add rfl rfl (i64w (by omega))) rfl ?_
            refine DL_y rfl (y_move rfl) rfl ?_
            refine DL_y rfl (y_nilp rfl) rfl ?_
            refine DL_y rfl (y_fieldA 1 Try.underlying48 rfl sz3 rfl rfl rfl) rfl ?_
            refine DL_y rfl (y_ldc Try.underlying3 rfl rfl (((S36.blk 0 rfl).cell _).trans (by rfl))) rfl ?_
            refine DL_y rfl (y_move rfl) rfl ?_
            refine DL_y rfl (y_add rfl rfl (i64w (by omega))) rfl ?_
            refine DL_y rfl (y_move rfl) rfl ?_
            refine DL_y rfl (y_conv is27 Try.underlying3 rfl (i64w (by omega))) rfl ?_
            refine DL_y rfl (y_add rfl rfl (i64w (by omega))) rfl ?_
            refine DL_y rfl (y_slice Try.underlying25 sz5 rfl rfl rfl (Nt.mk (show _ = ((p + (nuN l p).2.1 : Nat) : Int) by omega) : Nt _ (p + (nuN l p).2.1)) (Nt.mk (show _ = ((p + (nuN l p).2.1 + (nuN l p).1 : Nat) : Int) by omega) : Nt _ (p + (nuN l p).2.1 + (nuN l p).1)) (by omega) (by omega)) rfl ?_
            refine DL_y rfl (y_bstr Try.underlying25 Try.underlying5 Try.underlying9 rfl ((S36.rdM hb hbg).cutb (l := p + (nuN l p).2.1) (u := p + (nuN l p).2.1 + (nuN l p).1) (by omega) (by omega))) rfl ?_
            refine DL_y rfl (y_assign rfl) rfl ?_
            refine DL_nil ?_
            refine hK83 _ _ ?_
            refine T_seq fun K84 hK84 => ?_
            refine T_region ?_
            refine L_y (y_move rfl) rfl ?_
            refine L_y (y_move rfl) rfl ?_
            refine L_y (y_nilp rfl) rfl ?_
            refine L_y (y_fieldA 1 Try.underlying48 rfl sz3 rfl rfl rfl) rfl ?_
            refine L_y (y_ldc Try.underlying3 rfl rfl (((S36.blk 0 rfl).cell _).trans (by rfl))) rfl ?_
            refine L_y (y_move rfl) rfl ?_
            refine L_y (y_add rfl rfl (i64w (by omega))) rfl ?_
            refine L_y (y_move rfl) rfl ?_
            refine L_y (y_conv is27 Try.underlying3 rfl (i64w (by omega))) rfl ?_
            refine L_y (y_add rfl rfl (i64w (by omega))) rfl ?_
            refine L_y (y_nilp rfl) rfl ?_
            refine L_y (y_fieldA 1 Try.underlying48 rfl sz3 rfl rfl rfl) rfl ?_
            refine L_o (o_st1 S36 0 rfl rfl rfl rfl sz3 (by simp; done) fun w37 S37 => ?_)
            refine L_nil ?_
            refine hK84 _ _ ?_
            refine T_seq fun K85 hK85 => ?_
            refine T_region ?_
            refine L_y (y_move rfl) rfl ?_
            refine L_y (y_assign rfl) rfl ?_
            refine L_nil ?_
            refine hK85 _ _ ?_
            refine T_ret ?_
            refine ur ?_
            refine ret1 rfl rfl ?_
            first
            | (exfalso; omega)
            | (have hV : txN l p 0 m = ([], p, (nuN l p).2.2) := (by rw [txN, if_neg (by omega), if_pos (by omega), hE]); exact ⟨_, rfl, by rw [hV], by rw [hV]; exact xr_of (S37.turned1 0 rfl) rfl⟩)
        ·
          refine T_skip ?_
          refine hK77 _ _ ?_
          refine T_seq fun K86 hK86 => ?_
          refine T_seq fun K87 hK87 => ?_
          refine T_region ?_
          refine L_y (y_move rfl) rfl ?_
          refine L_y (y_neq rfl rfl) rfl ?_
          refine L_nil ?_
          refine hK87 _ _ ?_
          refine T_cond rfl (fun h52 => ?_) (fun h52 => ?_)
          ·
            refine T_seq fun K88 hK88 => ?_
            refine T_region ?_
            refine L_y (y_move rfl) rfl ?_
            refine L_y (y_move rfl) rfl ?_
            refine L_y (y_nilp rfl) rfl ?_
            refine L_y (y_fieldA 2 Try.underlying48 rfl sz3 rfl rfl rfl) rfl ?_
            refine L_o (o_st1 S34 0 rfl rfl rfl rfl sz3 (by simp; done) fun w38 S38 => ?_)
            refine L_nil ?_
            refine hK88 _ _ ?_
            refine T_seq fun K89 hK89 => ?_
            refine T_region ?_
            refine L_y (y_assign rfl) rfl ?_
            refine L_nil ?_
            refine hK89 _ _ ?_
            refine T_ret ?_
            refine ur ?_
            refine ret1 rfl rfl ?_
            first
            | (exfalso; omega)
            | (have hV : txN l p 0 m = ([], p, (nuN l p).2.2) := (by rw [txN, if_neg (by omega), if_pos (by omega), hE]); exact ⟨_, rfl, by rw [hV], by rw [hV]; exact xr_of (S38.turned1 0 rfl) rfl⟩)
          ·
            refine T_skip ?_
            refine hK86 _ _ ?_
            refine T_seq fun K90 hK90 => ?_
            refine T_drawnL [(0, true), (1, true), (2, true), (3, true), (4, true), (5, true), (6, true), (7, true), (8, true), (9, true), (10, true), (11, true), (12, true), (13, true), (14, true), (15, true), (16, true), (17, true), (18, true), (19, true), (20, true), (21, true)] hmix (by kernel_rfl) fun w39 l39 => ?_
            have S39 := S34.like l39
            refine DL_y rfl (y_move rfl) rfl ?_
            refine DL_y rfl (y_nilp rfl) rfl ?_
            refine DL_y rfl (y_fieldA 0 Try.underlying48 rfl sz25 rfl rfl rfl) rfl ?_
            refine DL_y rfl (y_ldc Try.underlying25 rfl rfl (((S39.blk 0 rfl).cell _).trans (by rfl))) rfl ?_
            refine DL_y rfl (y_move rfl) rfl ?_
            refine DL_y rfl (y_nilp rfl) rfl ?_
            refine DL_y rfl (y_fieldA 1 Try.underlying48 rfl sz3 rfl rfl rfl) rfl ?_
            refine DL_y rfl (y_ldc Try.underlying3 rfl rfl (((S39.blk 0 rfl).cell _).trans (by rfl))) rfl ?_
            refine DL_y rfl (y_move rfl) rfl ?_
            refine DL_y rfl (y_add rfl rfl (i64w (by omega))) rfl ?_
            refine DL_y rfl (y_move rfl) rfl ?_
            refine DL_y rfl (y_nilp rfl) rfl ?_
            refine DL_y rfl (y_fieldA 1 Try.underlying48 rfl sz3 rfl rfl rfl) rfl ?_
            refine DL_y rfl (y_ldc Try.underlying3 rfl rfl (((S39.blk 0 rfl).cell _).trans (by rfl))) rfl ?_
            refine DL_y rfl (y_move rfl) rfl ?_
            refine DL_y rfl (y_add rfl rfl (i64w (by omega))) rfl ?_
            refine DL_y rfl (y_move rfl) rfl ?_
            refine DL_y rfl (y_conv is27 Try.underlying3 rfl (i64w (by omega))) rfl ?_
            refine DL_y rfl (y_add rfl rfl (i64w (by omega))) rfl ?_
            refine DL_y rfl (y_slice Try.underlying25 sz5 rfl rfl rfl (Nt.mk (show _ = ((p + (nuN l p).2.1 : Nat) : Int) by omega) : Nt _ (p + (nuN l p).2.1)) (Nt.mk (show _ = ((p + (nuN l p).2.1 + (nuN l p).1 : Nat) : Int) by omega) : Nt _ (p + (nuN l p).2.1 + (nuN l p).1)) (by omega) (by omega)) rfl ?_
            refine DL_y rfl (y_bstr Try.underlying25 Try.underlying5 Try.underlying9 rfl ((S39.rdM hb hbg).cutb (l := p + (nuN l p).2.1) (u := p + (nuN l p).2.1 + (nuN l p).1) (by omega) (by omega))) rfl ?_
            refine DL_y rfl (y_assign rfl) rfl ?_
            refine DL_nil ?_
            refine hK90 _ _ ?_
            refine T_seq fun K91 hK91 => ?_
            refine T_region ?_
            refine L_y (y_move rfl) rfl ?_
            refine L_y (y_move rfl) rfl ?_
            refine L_y (y_nilp rfl) rfl ?_
            refine L_y (y_fieldA 1 Try.underlying48 rfl sz3 rfl rfl rfl) rfl ?_
            refine L_y (y_ldc Try.underlying3 rfl rfl (((S39.blk 0 rfl).cell _).trans (by rfl))) rfl ?_
            refine L_y (y_move rfl) rfl ?_
            refine L_y (y_add rfl rfl (i64w (by omega))) rfl ?_
            refine L_y (y_move rfl) rfl ?_
            refine L_y (y_conv is27 Try.underlying3 rfl (i64w (by omega))) rfl ?_
            refine L_y (y_add rfl rfl (i64w (by omega))) rfl ?_
            refine L_y (y_nilp rfl) rfl ?_
            refine L_y (y_fieldA 1 Try.underlying48 rfl sz3 rfl rfl rfl) rfl ?_
            refine L_o (o_st1 S39 0 rfl rfl rfl rfl sz3 (by simp; done) fun w40 S40 => ?_)
            refine L_nil ?_
            refine hK91 _ _ ?_
            refine T_seq fun K92 hK92 => ?_
            refine T_region ?_
            refine L_y (y_move rfl) rfl ?_
            refine L_y (y_assign rfl) rfl ?_
            refine L_nil ?_
            refine hK92 _ _ ?_
            refine T_ret ?_
            refine ur ?_
            refine ret1 rfl rfl ?_
            first
            | (exfalso; omega)
            | (have hV : txN l p 0 m = ([], p, (nuN l p).2.2) := (by rw [txN, if_neg (by omega), if_pos (by omega), hE]); exact ⟨_, rfl, by rw [hV], by rw [hV]; exact xr_of (S40.turned1 0 rfl) rfl⟩)
      ·
        refine DL_gno rfl rfl rfl rfl ?_
        refine DL_gno rfl rfl rfl rfl ?_
        refine DL_gno rfl rfl rfl rfl ?_
        refine DL_gno rfl rfl rfl rfl ?_
        refine DL_gno rfl rfl rfl rfl ?_
        refine DL_gno rfl rfl rfl rfl ?_
        refine DL_gno rfl rfl rfl rfl ?_
        refine DL_gno rfl rfl rfl rfl ?_
        refine DL_gno rfl rfl rfl rfl ?_
        refine DL_gno rfl rfl rfl rfl ?_
        refine DL_gno rfl rfl rfl rfl ?_
        refine DL_gno rfl rfl rfl rfl ?_
        refine DL_gno rfl rfl rfl rfl ?_
        refine DL_gno rfl rfl rfl rfl ?_
        refine DL_gno rfl rfl rfl rfl ?_
        refine DL_y rfl (y_pk rfl rfl) rfl ?_
        refine DL_nil ?_
        refine hK78 _ _ ?_
        refine T_false rfl ?_
        refine T_skip ?_
        refine hK77 _ _ ?_
        refine T_seq fun K93 hK93 => ?_
        refine T_seq fun K94 hK94 => ?_
        refine T_region ?_
        refine L_y (y_move rfl) rfl ?_
        refine L_y (y_neq rfl rfl) rfl ?_
        refine L_nil ?_
        refine hK94 _ _ ?_
        refine T_cond rfl (fun h52 => ?_) (fun h52 => ?_)
        ·
          refine T_seq fun K95 hK95 => ?_
          refine T_region ?_
          refine L_y (y_move rfl) rfl ?_
          refine L_y (y_move rfl) rfl ?_
          refine L_y (y_nilp rfl) rfl ?_
          refine L_y (y_fieldA 2 Try.underlying48 rfl sz3 rfl rfl rfl) rfl ?_
          refine L_o (o_st1 S34 0 rfl rfl rfl rfl sz3 (by simp; done) fun w41 S41 => ?_)
          refine L_nil ?_
          refine hK95 _ _ ?_
          refine T_seq fun K96 hK96 => ?_
          refine T_region ?_
          refine L_y (y_assign rfl) rfl ?_
          refine L_nil ?_
          refine hK96 _ _ ?_
          refine T_ret ?_
          refine ur ?_
          refine ret1 rfl rfl ?_
          first
          | (exfalso; omega)
          | (have hV : txN l p 0 m = ([], p, (nuN l p).2.2) := (by rw [txN, if_neg (by omega), if_pos (by omega), hE]); exact ⟨_, rfl, by rw [hV], by rw [hV]; exact xr_of (S41.turned1 0 rfl) rfl⟩)
        ·
          refine T_skip ?_
          refine hK93 _ _ ?_
          refine T_seq fun K97 hK97 => ?_
          refine T_drawnL [(0, true), (1, true), (2, true), (3, true), (4, true), (5, true), (6, true), (7, true), (8, true), (9, true), (10, true), (11, true), (12, true), (13, true), (14, true), (15, true), (16, true), (17, true), (18, true), (19, true), (20, true), (21, true)] hmix (by kernel_rfl) fun w42 l42 => ?_
          have S42 := S34.like l42
          refine DL_y rfl (y_move rfl) rfl ?_
          refine DL_y rfl (y_nilp rfl) rfl ?_
          refine DL_y rfl (y_fieldA 0 Try.underlying48 rfl sz25 rfl rfl rfl) rfl ?_
          refine DL_y rfl (y_ldc Try.underlying25 rfl rfl (((S42.blk 0 rfl).cell _).trans (by rfl))) rfl ?_
          refine DL_y rfl (y_move rfl) rfl ?_
          refine DL_y rfl (y_nilp rfl) rfl ?_
          refine DL_y rfl (y_fieldA 1 Try.underlying48 rfl sz3 rfl rfl rfl) rfl ?_
          refine DL_y rfl (y_ldc Try.underlying3 rfl rfl (((S42.blk 0 rfl).cell _).trans (by rfl))) rfl ?_
          refine DL_y rfl (y_move rfl) rfl ?_
          refine DL_y rfl (y_add rfl rfl (i64w (by omega))) rfl ?_
          refine DL_y rfl (y_move rfl) rfl ?_
          refine DL_y rfl (y_nilp rfl) rfl ?_
          refine DL_y rfl (y_fieldA 1 Try.underlying48 rfl sz3 rfl rfl rfl) rfl ?_
          refine DL_y rfl (y_ldc Try.underlying3 rfl rfl (((S42.blk 0 rfl).cell _).trans (by rfl))) rfl ?_
          refine DL_y rfl (y_move rfl) rfl ?_
          refine DL_y rfl (y_add rfl rfl (i64w (by omega))) rfl ?_
          refine DL_y rfl (y_move rfl) rfl ?_
          refine DL_y rfl (y_conv is27 Try.underlying3 rfl (i64w (by omega))) rfl ?_
          refine DL_y rfl (y_add rfl rfl (i64w (by omega))) rfl ?_
          refine DL_y rfl (y_slice Try.underlying25 sz5 rfl rfl rfl (Nt.mk (show _ = ((p + (nuN l p).2.1 : Nat) : Int) by omega) : Nt _ (p + (nuN l p).2.1)) (Nt.mk (show _ = ((p + (nuN l p).2.1 + (nuN l p).1 : Nat) : Int) by omega) : Nt _ (p + (nuN l p).2.1 + (nuN l p).1)) (by omega) (by omega)) rfl ?_
          refine DL_y rfl (y_bstr Try.underlying25 Try.underlying5 Try.underlying9 rfl ((S42.rdM hb hbg).cutb (l := p + (nuN l p).2.1) (u := p + (nuN l p).2.1 + (nuN l p).1) (by omega) (by omega))) rfl ?_
          refine DL_y rfl (y_assign rfl) rfl ?_
          refine DL_nil ?_
          refine hK97 _ _ ?_
          refine T_seq fun K98 hK98 => ?_
          refine T_region ?_
          refine L_y (y_move rfl) rfl ?_
          refine L_y (y_move rfl) rfl ?_
          refine L_y (y_nilp rfl) rfl ?_
          refine L_y (y_fieldA 1 Try.underlying48 rfl sz3 rfl rfl rfl) rfl ?_
          refine L_y (y_ldc Try.underlying3 rfl rfl (((S42.blk 0 rfl).cell _).trans (by rfl))) rfl ?_
          refine L_y (y_move rfl) rfl ?_
          refine L_y (y_add rfl rfl (i64w (by omega))) rfl ?_
          refine L_y (y_move rfl) rfl ?_
          refine L_y (y_conv is27 Try.underlying3 rfl (i64w (by omega))) rfl ?_
          refine L_y (y_add rfl rfl (i64w (by omega))) rfl ?_
          refine L_y (y_nilp rfl) rfl ?_
          refine L_y (y_fieldA 1 Try.underlying48 rfl sz3 rfl rfl rfl) rfl ?_
          refine L_o (o_st1 S42 0 rfl rfl rfl rfl sz3 (by simp; done) fun w43 S43 => ?_)
          refine L_nil ?_
          refine hK98 _ _ ?_
          refine T_seq fun K99 hK99 => ?_
          refine T_region ?_
          refine L_y (y_move rfl) rfl ?_
          refine L_y (y_assign rfl) rfl ?_
          refine L_nil ?_
          refine hK99 _ _ ?_
          refine T_ret ?_
          refine ur ?_
          refine ret1 rfl rfl ?_
          first
          | (exfalso; omega)
          | (have hV : txN l p 0 m = ([], p, (nuN l p).2.2) := (by rw [txN, if_neg (by omega), if_pos (by omega), hE]); exact ⟨_, rfl, by rw [hV], by rw [hV]; exact xr_of (S43.turned1 0 rfl) rfl⟩)
end Go.Proofs.Ytcbnhmcfdpcbhaa


/-
  A law's arguments, opened: slices of elements of many cells. General; nothing here names a program.
-/
namespace Go.Proofs.Ytcbnhmcfdpcbhaa.Zx
open Go.ChangeShapes Go.WideShapes Go.ChangeAt Go.RowKit Go.Deep Zk
set_option linter.unusedVariables false
section
variable {H : Type} {enc : TypeId × Value → H} {P : Program} {w : World} {base : Nat} {spare : Nat → Bool} {held : Bool}
theorem flat_len {α : Type} (f : α → List Value) (size : Nat) (hlen : ∀ y, (f y).length = size) : ∀ l : List α, (l.flatMap f).length = l.length * size
  | [] => by simp
  | y :: l => by rw [List.flatMap_cons, List.length_append, hlen, flat_len f size hlen l, List.length_cons, Nat.succ_mul]; omega
theorem flat_get {α : Type} (f : α → List Value) (size : Nat) (hlen : ∀ y, (f y).length = size) : ∀ (l : List α) (j : Nat) (u : Value), (l.flatMap f)[j]? = some u → ∃ i y, l[i]? = some y ∧ i * size ≤ j ∧ (f y)[j - i * size]? = some u
  | [], j, u, h => by simp at h
  | y :: l, j, u, h => by
    rw [List.flatMap_cons, List.getElem?_append, hlen] at h
    split at h
    · exact ⟨0, y, rfl, by omega, by simpa using h⟩
    · obtain ⟨i, z, h1, h2, h3⟩ := flat_get f size hlen l (j - size) u h
      exact ⟨i + 1, z, by simpa using h1, by rw [Nat.succ_mul]; omega, by rw [Nat.succ_mul, show j - (i * size + size) = j - size - i * size by omega]; exact h3⟩
theorem flat_cut {α : Type} (f : α → List Value) (size : Nat) (hlen : ∀ y, (f y).length = size) : ∀ (l : List α) (k : Nat) (y : α), l[k]? = some y → ((l.flatMap f).drop (k * size)).take size = f y
  | [], k, y, h => by simp at h
  | z :: l, 0, y, h => by
    have e : z = y := by simpa using h
    subst e
    rw [Nat.zero_mul, List.drop_zero, List.flatMap_cons, List.take_append_of_le_length (by rw [hlen]; exact Nat.le_refl _), List.take_of_length_le (by rw [hlen]; exact Nat.le_refl _)]
  | z :: l, k + 1, y, h => by
    rw [List.flatMap_cons, Nat.succ_mul, Nat.add_comm, ← List.drop_drop, List.drop_left' (hlen z)]
    exact flat_cut f size hlen l k y (by simpa using h)
end
section
variable {P : Program} {env : Env} {w : World} {dst : Option Tmp} {ty : TypeId} {pos : String} {after : Array Edge} {g : Option (Nat × Bool)}
/-- A load of an element of many cells. -/
theorem y_ldp {α : Type} {f : α → List Value} {l : List α} {y : α} {x : Operand} {A : Option Addr} {n c k size : Nat} {lt : TypeId} {d : TypeDesc} (hlen : ∀ y, (f y).length = size) (hd : P.underlying lt = some d) (hrow : d.isRow = true) (hsz : (P.info? lt).map (·.size) = some size) (hx : ev env x = some (pR A k size)) (hr : Rs w size A n c (l.flatMap f)) (hk : k < n) (hy : l[k]? = some y) :
    Y P (Like w) env ⟨dst, .load lt x, ty, pos, after, g⟩ (.agg (f y).toArray) := by
  have h := y_ldn (dst := dst) (ty := ty) (pos := pos) (after := after) (g := g) hd hrow hsz hx hr hk
  rwa [flat_cut f size hlen l k y hy] at h
end
end Go.Proofs.Ytcbnhmcfdpcbhaa.Zx


/-
  The second form's bound: what it gives of a law's arguments. General; nothing here names a program.
-/
namespace Go.Proofs.Ytcbnhmcfdpcbhaa.Zx
open Go.ChangeShapes Go.WideShapes Go.ChangeAt Go.RowKit Go.Deep Zk
set_option linter.unusedVariables false
section
variable {H : Type} {enc : TypeId × Value → H} {P : Program} {w : World} {base : Nat} {spare : Nat → Bool} {held : Bool}
theorem bulk_pos (d : DataW H) : 1 ≤ Rows.uptoBulk d := by
  cases d with
  | lit l => cases l <;> simp [Rows.uptoBulk]
  | _ => simp [Rows.uptoBulk]
theorem flat_one {α : Type} (f : α → Value) : ∀ l : List α, l.flatMap (fun y => [f y]) = l.map f
  | [] => rfl
  | y :: l => by rw [List.flatMap_cons, flat_one f l]; rfl
theorem bulk_range {α : Type} (m : α → Nat) : ∀ (l : List α) (D : Nat → DataW H), (∀ i y, l[i]? = some y → m y ≤ Rows.uptoBulk (D i)) → (l.map m).sum ≤ Rows.uptoBulkAll ((List.range l.length).map D)
  | [], D, h => by simp
  | x :: l, D, h => by
    rw [List.length_cons, List.range_succ_eq_map, List.map_cons, List.map_cons, List.map_map, Rows.uptoBulkAll, List.sum_cons]
    have h1 := h 0 x rfl
    have h2 := bulk_range m l (D ∘ Nat.succ) (fun i y hy => h (i + 1) y hy)
    omega
/-- A slice whose elements are of many cells, with its bulk. -/
theorem read_rowNB {α : Type} (f : α → List Value) (φ : α → Prop) (m : α → Nat) (size : Nat) {t e : TypeId} (ht : P.underlying t = some (.slice e)) (hc : P.cellsOf e = size) (hpos : 0 < size) (hlen : ∀ y, (f y).length = size)
    (hread : ∀ n cs x, cs.length = size → DataW.trod enc P w base spare held n e cs = some x → ∃ y, cs = f y ∧ φ y ∧ m y ≤ Rows.uptoBulk x.1)
    {fuel : Nat} {cs : List Value} {x : DataW H × List MemPlace} (h : DataW.trod enc P w base spare held fuel t cs = some x) :
    ∃ A n c, ∃ l : List α, cs = [.slice A n c] ∧ Rs w size A n c (l.flatMap f) ∧ (∀ y ∈ l, φ y) ∧ l.length = n ∧ (l.map m).sum + 1 ≤ Rows.uptoBulk x.1 := by
  rcases open_slice ht h with ⟨rfl, rfl⟩ | ⟨a, len, cap, k, n, D, Pl, rfl, _, hl, hm, hmm, rfl, hi⟩
  · exact ⟨none, 0, 0, [], rfl, Rs.nil w size, (fun y hy => by cases hy), rfl, by simp [Rows.uptoBulk]⟩
  · have hle : len ≤ k := by rw [hmm]; split <;> omega
    rw [hc] at hi
    obtain ⟨l, hll, hp⟩ := list_of (fun i (y : α) => w.cells? base (a.add (i * size)) size = some (f y) ∧ φ y ∧ m y ≤ Rows.uptoBulk (D i)) len (fun i hil => by
      obtain ⟨cs', h1, h2⟩ := hi i (by omega)
      obtain ⟨y, h3, h4, h5⟩ := hread n cs' _ (World.cells?_some h1).2.1 h2
      exact ⟨y, by rw [← h3]; exact h1, h4, h5⟩)
    refine ⟨some a, len, cap, l, rfl, ⟨⟨by rw [flat_len f size hlen, hll], fun h0 => ⟨a, rfl, ?_, fun j u hu => ?_⟩⟩, hl, by unfold maxLen at hm; exact hm⟩, fun y hy => ?_, hll, ?_⟩
    · obtain ⟨cs', h1, h2⟩ := hi 0 (by omega)
      have h3 := (World.cells?_some h1).2.2 0 hpos
      rw [List.getElem?_eq_getElem (by rw [(World.cells?_some h1).2.1]; exact hpos)] at h3
      have := World.block_lt_of_cell? w _ h3
      rwa [block_of_add, block_of_add] at this
    · obtain ⟨i, y, h1, h2, h3⟩ := flat_get f size hlen l j u hu
      have h4 := (World.cells?_some (hp i y h1).1).2.2 (j - i * size) (by have := (List.getElem?_eq_some_iff.1 h3).1; rwa [hlen y] at this)
      rw [Go.Deep.add_add, show i * size + (j - i * size) = j by omega, h3] at h4
      exact h4
    · obtain ⟨i, hi2, rfl⟩ := List.getElem_of_mem hy
      exact (hp i _ (List.getElem?_eq_getElem hi2)).2.1
    · have h6 := bulk_range m l D (fun i y hy => (hp i y hy).2.2)
      rw [hll] at h6
      simp only [Rows.uptoBulk]
      omega
/-- A struct of three cells. -/
theorem read_struct3 {e : TypeId} {f0 f1 f2 : Field} (he : P.underlying e = some (.struct #[f0, f1, f2])) (o0 : f0.offset = 0) (o1 : f1.offset = 1) (o2 : f2.offset = 2) (c0 : P.cellsOf f0.type = 1) (c1 : P.cellsOf f1.type = 1) (c2 : P.cellsOf f2.type = 1)
    {n : Nat} {cs : List Value} {x : DataW H × List MemPlace} (hl : cs.length = 3) (h : DataW.trod enc P w base spare held n e cs = some x) :
    ∃ v0 v1 v2 y0 y1 y2 k, cs = [v0, v1, v2] ∧ x.1 = .agg [y0.1, y1.1, y2.1] ∧ DataW.trod enc P w base spare held k f0.type [v0] = some y0 ∧ DataW.trod enc P w base spare held k f1.type [v1] = some y1 ∧ DataW.trod enc P w base spare held k f2.type [v2] = some y2 := by
  obtain ⟨xs, k, hk, rfl, _, hxl, hf⟩ := DataW.trod_struct he h
  match xs, hxl, cs, hl with
  | [y0, y1, y2], _, [v0, v1, v2], _ =>
    have g0 := hf 0 f0 rfl
    have g1 := hf 1 f1 rfl
    have g2 := hf 2 f2 rfl
    simp [o0, o1, o2, c0, c1, c2] at g0 g1 g2
    exact ⟨v0, v1, v2, y0, y1, y2, k, rfl, rfl, g0, g1, g2⟩
end
end Go.Proofs.Ytcbnhmcfdpcbhaa.Zx


/-
  The law OctetJust.
-/
namespace Go.Proofs.Ytcbnhmcfdpcbhaa
open Go.RowKit Zk Zx
set_option linter.unusedVariables false
set_option linter.unusedSimpArgs false

end Go.Proofs.Ytcbnhmcfdpcbhaa


/-
  The law: took.
-/
namespace Go.Proofs.Ytcbnhmcfdpcbhaa
open Go.RowKit Zk Zx
set_option linter.unusedVariables false
set_option linter.unusedSimpArgs false

theorem be_rw (l : List UInt8) (p q k : Nat) : be (rwL l p q k) < 256 ^ k := Nat.lt_of_lt_of_le (be_lt _) (Nat.pow_le_pow_right (by decide) (rw_le l p q k))
theorem rw_at (l : List UInt8) (p q k : Nat) (hp : p ≤ l.length) : rwP l p q k ≤ l.length := by
  unfold rwP
  split
  · exact tkP_le l p k hp
  · exact hp
theorem rn_at (l : List UInt8) (p q : Nat) (m : Int) (hp : p ≤ l.length) : rnP l p q m ≤ l.length := by
  unfold rnP
  split
  · exact hp
  · exact rw_at l p q _ hp


set_option maxRecDepth 100000 in
theorem took (g : Nat) (A : Option Addr) (n c : Nat) (g2 : Nat) (B : Option Addr) (nb cb : Nat) (l : List UInt8) (p q : Nat) (td : Int) (tx : Nat) (tm : Int) (w0 : World) (hw : (rdr g A n c l p q).holds w0) (hx : (xr g2 B nb cb p q).holds w0) (hap : ∀ i, (rdr g A n c l p q).dom i → ¬ (xr g2 B nb cb p q).dom i) (hb : Rs w0 1 B nb cb (bL l)) (hp : p ≤ l.length) (hn62 : n ≤ 140737488355300) (htm : tm ≤ 9223372036854775807) (hbg : ∀ ad, 0 < nb → B = some ad → ad.block ≠ g2) (hbr : ∀ ad, 0 < nb → B = some ad → ¬ (rdr g A n c l p q).dom ad.block) :
    Calls Try.prog 23 #[.pointer (some ⟨g, 0, none⟩), .pointer (some ⟨g2, 0, none⟩), .agg #[.int .i64 td, .int .u64 (tx : Int), .int .i64 tm]] w0 fun e w' => ∃ u, e = .returned u ∧ u = .bool true ∧ ∃ p' q', p' ≤ l.length ∧ Turned w0 w' (both (rdr g A n c l p q) (xr g2 B nb cb p q)) (both (rdr g A n c l p' q') (xr g2 B nb cb p' q')) := by
  refine enter1 (env := [(0, .pointer (some ⟨g, 0, none⟩)), (1, .pointer (some ⟨g2, 0, none⟩)), (2, .agg #[.int .i64 td, .int .u64 (tx : Int), .int .i64 tm])]) [.pointer (some ⟨g, 0, none⟩), .pointer (some ⟨g2, 0, none⟩), .agg #[.int .i64 td, .int .u64 (tx : Int), .int .i64 tm]] Try.func23 rfl Try.ntmps23 rfl rfl ?_
  have hnl := rdr_len hw; have hnb := hb.lenb; have hM : ∀ ad, 0 < nb → B = some ad → ¬ ((rdr g A n c l p q).dom ad.block ∨ (xr g2 B nb cb p q).dom ad.block) := fun ad h1 h2 h => h.elim (hbr ad h1 h2) (hbg ad h1 h2); have S0 := St.borrow2 (rdr g A n c l p q) (xr g2 B nb cb p q) hw hx (fun i h => h.elim (rdr_lt hw i) (xr_lt hx i)) hap
  refine T_seq fun K1 hK1 => ?_
  refine T_region ?_
  refine L_o (o_box rfl S0 rfl fun b1 w1 hb1 S1 => ?_)
  refine L_y (y_assign rfl) rfl ?_
  refine L_nil ?_
  refine hK1 _ _ ?_
  refine T_seq fun K2 hK2 => ?_
  refine T_region ?_
  refine L_y (y_assign rfl) rfl ?_
  refine L_nil ?_
  refine hK2 _ _ ?_
  refine T_seq fun K3 hK3 => ?_
  refine T_seq fun K4 hK4 => ?_
  refine T_region ?_
  refine L_y (y_fieldA 0 Try.underlying51 rfl sz3 rfl rfl rfl) rfl ?_
  refine L_y (y_ldc Try.underlying3 rfl rfl (((S1.blk 2 rfl).cell _).trans (by rfl))) rfl ?_
  refine L_nil ?_
  refine hK4 _ _ ?_
  refine T_block ?_
  refine T_seq fun K5 hK5 => ?_
  refine T_region ?_
  refine L_y (y_eql rfl rfl) rfl ?_
  refine L_y (y_assign rfl) rfl ?_
  refine L_nil ?_
  refine hK5 _ _ ?_
  refine T_cond rfl (fun h19 => ?_) (fun h19 => ?_)
  ·
    have hp2 : rwP l p q 1 ≤ l.length := rw_at l p q _ hp
    have hb1 := be_rw l p q 1
    refine T_region ?_
    refine L_y (y_move rfl) rfl ?_
    refine L_o (o_call Try.func24 rfl rfl (rbyte g A n c l p q w1 (S1.get 0 rfl) hp (by omega)) rfl rfl ?_)
    rintro e2 w2 ⟨v2, rfl, rfl, T2⟩
    refine ⟨_, rfl, ?_⟩
    have S2 := S1.turn 0 rfl T2
    refine L_y (y_conv is5 Try.underlying27 rfl (u64w (by omega))) rfl ?_
    refine L_y (y_move rfl) rfl ?_
    refine L_o (o_call Try.func40 rfl rfl (xbig g2 B nb cb l p q 1 w2 (S2.get 1 rfl) (S2.rdM hb hM) hp (by omega) hbg (by omega)) rfl rfl ?_)
    rintro e3 w3 ⟨v3, rfl, rfl, T3⟩
    refine ⟨_, rfl, ?_⟩
    have S3 := S2.turn 1 rfl T3
    refine L_y (y_eql rfl rfl) rfl ?_
    refine L_y (y_assign rfl) rfl ?_
    refine L_nil ?_
    refine hK3 _ _ ?_
    refine T_seq fun K6 hK6 => ?_
    refine T_drawnL [(0, true), (1, true), (2, true), (4, true), (5, true), (6, true), (7, true), (3, false), (8, true), (9, true), (10, true), (11, true), (13, true), (14, true), (15, true), (16, true), (12, false), (17, true), (18, true), (19, true), (20, true), (22, true), (23, true), (24, true), (25, true), (26, true), (27, true), (28, true), (29, true), (30, true), (31, true), (21, false), (32, true), (33, true), (34, true), (35, true), (37, true), (36, false), (38, false), (39, true), (40, true), (41, true)] hmix (by kernel_rfl) fun w4 l4 => ?_
    have S4 := S3.like l4
    refine DL_y rfl (y_move rfl) rfl ?_
    refine DL_y rfl (y_move rfl) rfl ?_
    refine DL_split 65 rfl (fun h65 => ?_) (fun h65 => ?_)
    ·
      refine DL_gyes rfl rfl rfl (y_move rfl) rfl ?_
      refine DL_gyes rfl rfl rfl (y_move rfl) rfl ?_
      refine DL_gyes rfl rfl rfl (y_nilp rfl) rfl ?_
      refine DL_gyes rfl rfl rfl (y_fieldA 2 Try.underlying48 rfl sz3 rfl rfl rfl) rfl ?_
      refine DL_gyes rfl rfl rfl (y_ldc Try.underlying3 rfl rfl (((S4.blk 1 rfl).cell _).trans (by rfl))) rfl ?_
      refine DL_ogyes rfl rfl rfl (o_call Try.func18 rfl rfl (rerr g A n c l _ _ w4 (S4.get 0 rfl) hp2) rfl rfl ?_)
      rintro e5 w5 ⟨v5, rfl, l5, rfl⟩
      refine ⟨_, rfl, l5, ?_⟩
      have S5 := S4.like l5
      have q5 := l5
      refine DL_gyes rfl rfl rfl (y_eql rfl rfl) rfl ?_
      refine DL_y rfl (y_pk rfl rfl) rfl ?_
      refine DL_y rfl (y_move rfl) rfl ?_
      refine DL_split 74 rfl (fun h74 => ?_) (fun h74 => ?_)
      ·
        refine DL_gyes rfl rfl rfl (y_move rfl) rfl ?_
        refine DL_gyes rfl rfl rfl (y_move rfl) rfl ?_
        refine DL_gyes rfl rfl rfl (y_nilp rfl) rfl ?_
        refine DL_gyes rfl rfl rfl (y_fieldA 1 Try.underlying48 rfl sz3 rfl rfl rfl) rfl ?_
        refine DL_gyes rfl rfl rfl (y_ldc Try.underlying3 rfl rfl (((S4.blk 1 rfl).cell _).trans (by rfl))) rfl ?_
        refine DL_ogyes rfl rfl rfl (o_call Try.func22 rfl rfl (rat g A n c l _ _ w5 (S5.get 0 rfl) hp2) rfl rfl ?_)
        rintro e6 w6 ⟨v6, rfl, l6, rfl⟩
        refine ⟨_, rfl, (Like.trans q5 l6), ?_⟩
        have S6 := S5.like l6
        have q6 := (Like.trans q5 l6)
        refine DL_gyes rfl rfl rfl (y_eql rfl rfl) rfl ?_
        refine DL_y rfl (y_pk rfl rfl) rfl ?_
        refine DL_y rfl (y_move rfl) rfl ?_
        refine DL_split 83 rfl (fun h83 => ?_) (fun h83 => ?_)
        ·
          refine DL_gyes rfl rfl rfl (y_move rfl) rfl ?_
          refine DL_gyes rfl rfl rfl (y_move rfl) rfl ?_
          refine DL_gyes rfl rfl rfl (y_nilp rfl) rfl ?_
          refine DL_gyes rfl rfl rfl (y_fieldA 0 Try.underlying48 rfl sz25 rfl rfl rfl) rfl ?_
          refine DL_gyes rfl rfl rfl (y_ldc Try.underlying25 rfl rfl (((S4.blk 1 rfl).cell _).trans (by rfl))) rfl ?_
          refine DL_gyes rfl rfl rfl (y_len Try.underlying25 rfl) rfl ?_
          refine DL_gyes rfl rfl rfl (y_move rfl) rfl ?_
          refine DL_gyes rfl rfl rfl (y_nilp rfl) rfl ?_
          refine DL_gyes rfl rfl rfl (y_fieldA 1 Try.underlying48 rfl sz3 rfl rfl rfl) rfl ?_
          refine DL_gyes rfl rfl rfl (y_ldc Try.underlying3 rfl rfl (((S4.blk 1 rfl).cell _).trans (by rfl))) rfl ?_
          refine DL_gyes rfl rfl rfl (y_sub rfl rfl (i64w (by omega))) rfl ?_
          refine DL_ogyes rfl rfl rfl (o_call Try.func19 rfl rfl (rleft g A n c l _ _ w6 (S6.get 0 rfl) hp2) rfl rfl ?_)
          rintro e7 w7 ⟨v7, rfl, l7, rfl⟩
          refine ⟨_, rfl, (Like.trans q6 l7), ?_⟩
          have S7 := S6.like l7
          have q7 := (Like.trans q6 l7)
          refine DL_gyes rfl rfl rfl (y_eql rfl rfl) rfl ?_
          refine DL_y rfl (y_pk rfl rfl) rfl ?_
          refine DL_y rfl (y_move rfl) rfl ?_
          refine DL_split 98 rfl (fun h98 => ?_) (fun h98 => ?_)
          ·
            refine DL_gyes rfl rfl rfl (y_move rfl) rfl ?_
            refine DL_gyes rfl rfl rfl (y_move rfl) rfl ?_
            refine DL_ogyes rfl rfl rfl (o_call Try.func28 rfl rfl (rend g A n c l _ _ w7 (S7.get 0 rfl) hp2) rfl rfl ?_)
            rintro e8 w8 ⟨v8, rfl, l8, rfl⟩
            refine ⟨_, rfl, (Like.trans q7 l8), ?_⟩
            have S8 := S7.like l8
            have q8 := (Like.trans q7 l8)
            refine DL_ogyes rfl rfl rfl (o_call Try.func44 rfl rfl (xend g2 B nb cb l _ _ w8 (S8.get 1 rfl) (S8.rdM hb hM) hp2 (by omega)) rfl rfl ?_)
            rintro e9 w9 ⟨v9, rfl, l9, rfl⟩
            refine ⟨_, rfl, (Like.trans q8 l9), ?_⟩
            have S9 := S8.like l9
            have q9 := (Like.trans q8 l9)
            refine DL_gyes rfl rfl rfl (y_eql rfl rfl) rfl ?_
            refine DL_y rfl (y_pk rfl rfl) rfl ?_
            refine DL_y rfl (y_assign rfl) rfl ?_
            refine DL_nil ?_
            refine hK6 _ _ ?_
            refine T_ret ?_
            refine ur ?_
            refine ret1 rfl rfl ?_
            exact ⟨_, rfl, by rw [show nb = n by omega]; exact congrArg Value.bool (decide_eq_true rfl), _, _, hp2, S9.turned2 0 1 rfl rfl⟩
          ·
            exact absurd (by omega) h98
        ·
          exact absurd rfl h83
      ·
        exact absurd rfl h74
    ·
      exact absurd rfl h65
  ·
    refine T_seq fun K7 hK7 => ?_
    refine T_region ?_
    refine L_y (y_eql rfl rfl) rfl ?_
    refine L_y (y_assign rfl) rfl ?_
    refine L_nil ?_
    refine hK7 _ _ ?_
    refine T_cond rfl (fun h27 => ?_) (fun h27 => ?_)
    ·
      have hp2 : rwP l p q 4 ≤ l.length := rw_at l p q _ hp
      have hb4 := be_rw l p q 4
      refine T_region ?_
      refine L_y (y_move rfl) rfl ?_
      refine L_o (o_call Try.func25 rfl rfl (ru32 g A n c l p q w1 (S1.get 0 rfl) hp (by omega)) rfl rfl ?_)
      rintro e10 w10 ⟨v10, rfl, rfl, T10⟩
      refine ⟨_, rfl, ?_⟩
      have S10 := S1.turn 0 rfl T10
      refine L_y (y_conv is54 Try.underlying27 rfl (u64w (by omega))) rfl ?_
      refine L_y (y_move rfl) rfl ?_
      refine L_o (o_call Try.func40 rfl rfl (xbig g2 B nb cb l p q 4 w10 (S10.get 1 rfl) (S10.rdM hb hM) hp (by omega) hbg (by omega)) rfl rfl ?_)
      rintro e11 w11 ⟨v11, rfl, rfl, T11⟩
      refine ⟨_, rfl, ?_⟩
      have S11 := S10.turn 1 rfl T11
      refine L_y (y_eql rfl rfl) rfl ?_
      refine L_y (y_assign rfl) rfl ?_
      refine L_nil ?_
      refine hK3 _ _ ?_
      refine T_seq fun K8 hK8 => ?_
      refine T_drawnL [(0, true), (1, true), (2, true), (4, true), (5, true), (6, true), (7, true), (3, false), (8, true), (9, true), (10, true), (11, true), (13, true), (14, true), (15, true), (16, true), (12, false), (17, true), (18, true), (19, true), (20, true), (22, true), (23, true), (24, true), (25, true), (26, true), (27, true), (28, true), (29, true), (30, true), (31, true), (21, false), (32, true), (33, true), (34, true), (35, true), (37, true), (36, false), (38, false), (39, true), (40, true), (41, true)] hmix (by kernel_rfl) fun w12 l12 => ?_
      have S12 := S11.like l12
      refine DL_y rfl (y_move rfl) rfl ?_
      refine DL_y rfl (y_move rfl) rfl ?_
      refine DL_split 65 rfl (fun h65 => ?_) (fun h65 => ?_)
      ·
        refine DL_gyes rfl rfl rfl (y_move rfl) rfl ?_
        refine DL_gyes rfl rfl rfl (y_move rfl) rfl ?_
        refine DL_gyes rfl rfl rfl (y_nilp rfl) rfl ?_
        refine DL_gyes rfl rfl rfl (y_fieldA 2 Try.underlying48 rfl sz3 rfl rfl rfl) rfl ?_
        refine DL_gyes rfl rfl rfl (y_ldc Try.underlying3 rfl rfl (((S12.blk 1 rfl).cell _).trans (by rfl))) rfl ?_
        refine DL_ogyes rfl rfl rfl (o_call Try.func18 rfl rfl (rerr g A n c l _ _ w12 (S12.get 0 rfl) hp2) rfl rfl ?_)
        rintro e13 w13 ⟨v13, rfl, l13, rfl⟩
        refine ⟨_, rfl, l13, ?_⟩
        have S13 := S12.like l13
        have q13 := l13
        refine DL_gyes rfl rfl rfl (y_eql rfl rfl) rfl ?_
        refine DL_y rfl (y_pk rfl rfl) rfl ?_
        refine DL_y rfl (y_move rfl) rfl ?_
        refine DL_split 74 rfl (fun h74 => ?_) (fun h74 => ?_)
        ·
          refine DL_gyes rfl rfl rfl (y_move rfl) rfl ?_
          refine DL_gyes rfl rfl rfl (y_move rfl) rfl ?_
          refine DL_gyes rfl rfl rfl (y_nilp rfl) rfl ?_
          refine DL_gyes rfl rfl rfl (y_fieldA 1 Try.underlying48 rfl sz3 rfl rfl rfl) rfl ?_
          refine DL_gyes rfl rfl rfl (y_ldc Try.underlying3 rfl rfl (((S12.blk 1 rfl).cell _).trans (by rfl))) rfl ?_
          refine DL_ogyes rfl rfl rfl (o_call Try.func22 rfl rfl (rat g A n c l _ _ w13 (S13.get 0 rfl) hp2) rfl rfl ?_)
          rintro e14 w14 ⟨v14, rfl, l14, rfl⟩
          refine ⟨_, rfl, (Like.trans q13 l14), ?_⟩
          have S14 := S13.like l14
          have q14 := (Like.trans q13 l14)
          refine DL_gyes rfl rfl rfl (y_eql rfl rfl) rfl ?_
          refine DL_y rfl (y_pk rfl rfl) rfl ?_
          refine DL_y rfl (y_move rfl) rfl ?_
          refine DL_split 83 rfl (fun h83 => ?_) (fun h83 => ?_)
          ·
            refine DL_gyes rfl rfl rfl (y_move rfl) rfl ?_
            refine DL_gyes rfl rfl rfl (y_move rfl) rfl ?_
            refine DL_gyes rfl rfl rfl (y_nilp rfl) rfl ?_
            refine DL_gyes rfl rfl rfl (y_fieldA 0 Try.underlying48 rfl sz25 rfl rfl rfl) rfl ?_
            refine DL_gyes rfl rfl rfl (y_ldc Try.underlying25 rfl rfl (((S12.blk 1 rfl).cell _).trans (by rfl))) rfl ?_
            refine DL_gyes rfl rfl rfl (y_len Try.underlying25 rfl) rfl ?_
            refine DL_gyes rfl rfl rfl (y_move rfl) rfl ?_
            refine DL_gyes rfl rfl rfl (y_nilp rfl) rfl ?_
            refine DL_gyes rfl rfl rfl (y_fieldA 1 Try.underlying48 rfl sz3 rfl rfl rfl) rfl ?_
            refine DL_gyes rfl rfl rfl (y_ldc Try.underlying3 rfl rfl (((S12.blk 1 rfl).cell _).trans (by rfl))) rfl ?_
            refine DL_gyes rfl rfl rfl (y_sub rfl rfl (i64w (by omega))) rfl ?_
            refine DL_ogyes rfl rfl rfl (o_call Try.func19 rfl rfl (rleft g A n c l _ _ w14 (S14.get 0 rfl) hp2) rfl rfl ?_)
            rintro e15 w15 ⟨v15, rfl, l15, rfl⟩
            refine ⟨_, rfl, (Like.trans q14 l15), ?_⟩
            have S15 := S14.like l15
            have q15 := (Like.trans q14 l15)
            refine DL_gyes rfl rfl rfl (y_eql rfl rfl) rfl ?_
            refine DL_y rfl (y_pk rfl rfl) rfl ?_
            refine DL_y rfl (y_move rfl) rfl ?_
            refine DL_split 98 rfl (fun h98 => ?_) (fun h98 => ?_)
            ·
              refine DL_gyes rfl rfl rfl (y_move rfl) rfl ?_
              refine DL_gyes rfl rfl rfl (y_move rfl) rfl ?_
              refine DL_ogyes rfl rfl rfl (o_call Try.func28 rfl rfl (rend g A n c l _ _ w15 (S15.get 0 rfl) hp2) rfl rfl ?_)
              rintro e16 w16 ⟨v16, rfl, l16, rfl⟩
              refine ⟨_, rfl, (Like.trans q15 l16), ?_⟩
              have S16 := S15.like l16
              have q16 := (Like.trans q15 l16)
              refine DL_ogyes rfl rfl rfl (o_call Try.func44 rfl rfl (xend g2 B nb cb l _ _ w16 (S16.get 1 rfl) (S16.rdM hb hM) hp2 (by omega)) rfl rfl ?_)
              rintro e17 w17 ⟨v17, rfl, l17, rfl⟩
              refine ⟨_, rfl, (Like.trans q16 l17), ?_⟩
              have S17 := S16.like l17
              have q17 := (Like.trans q16 l17)
              refine DL_gyes rfl rfl rfl (y_eql rfl rfl) rfl ?_
              refine DL_y rfl (y_pk rfl rfl) rfl ?_
              refine DL_y rfl (y_assign rfl) rfl ?_
              refine DL_nil ?_
              refine hK8 _ _ ?_
              refine T_ret ?_
              refine ur ?_
              refine ret1 rfl rfl ?_
              exact ⟨_, rfl, by rw [show nb = n by omega]; exact congrArg Value.bool (decide_eq_true rfl), _, _, hp2, S17.turned2 0 1 rfl rfl⟩
            ·
              exact absurd (by omega) h98
          ·
            exact absurd rfl h83
        ·
          exact absurd rfl h74
      ·
        exact absurd rfl h65
    ·
      refine T_seq fun K9 hK9 => ?_
      refine T_region ?_
      refine L_y (y_eql rfl rfl) rfl ?_
      refine L_y (y_assign rfl) rfl ?_
      refine L_nil ?_
      refine hK9 _ _ ?_
      refine T_cond rfl (fun h35 => ?_) (fun h35 => ?_)
      ·
        have hp2 : rwP l p q 8 ≤ l.length := rw_at l p q _ hp
        refine T_region ?_
        refine L_y (y_move rfl) rfl ?_
        refine L_o (o_call Try.func26 rfl rfl (ru64 g A n c l p q w1 (S1.get 0 rfl) hp (by omega)) rfl rfl ?_)
        rintro e18 w18 ⟨v18, rfl, rfl, T18⟩
        refine ⟨_, rfl, ?_⟩
        have S18 := S1.turn 0 rfl T18
        refine L_y (y_move rfl) rfl ?_
        refine L_o (o_call Try.func40 rfl rfl (xbig g2 B nb cb l p q 8 w18 (S18.get 1 rfl) (S18.rdM hb hM) hp (by omega) hbg (by omega)) rfl rfl ?_)
        rintro e19 w19 ⟨v19, rfl, rfl, T19⟩
        refine ⟨_, rfl, ?_⟩
        have S19 := S18.turn 1 rfl T19
        refine L_y (y_eql rfl rfl) rfl ?_
        refine L_y (y_assign rfl) rfl ?_
        refine L_nil ?_
        refine hK3 _ _ ?_
        refine T_seq fun K10 hK10 => ?_
        refine T_drawnL [(0, true), (1, true), (2, true), (4, true), (5, true), (6, true), (7, true), (3, false), (8, true), (9, true), (10, true), (11, true), (13, true), (14, true), (15, true), (16, true), (12, false), (17, true), (18, true), (19, true), (20, true), (22, true), (23, true), (24, true), (25, true), (26, true), (27, true), (28, true), (29, true), (30, true), (31, true), (21, false), (32, true), (33, true), (34, true), (35, true), (37, true), (36, false), (38, false), (39, true), (40, true), (41, true)] hmix (by kernel_rfl) fun w20 l20 => ?_
        have S20 := S19.like l20
        refine DL_y rfl (y_move rfl) rfl ?_
        refine DL_y rfl (y_move rfl) rfl ?_
        refine DL_split 65 rfl (fun h65 => ?_) (fun h65 => ?_)
        ·
          refine DL_gyes rfl rfl rfl (y_move rfl) rfl ?_
          refine DL_gyes rfl rfl rfl (y_move rfl) rfl ?_
          refine DL_gyes rfl rfl rfl (y_nilp rfl) rfl ?_
          refine DL_gyes rfl rfl rfl (y_fieldA 2 Try.underlying48 rfl sz3 rfl rfl rfl) rfl ?_
          refine DL_gyes rfl rfl rfl (y_ldc Try.underlying3 rfl rfl (((S20.blk 1 rfl).cell _).trans (by rfl))) rfl ?_
          refine DL_ogyes rfl rfl rfl (o_call Try.func18 rfl rfl (rerr g A n c l _ _ w20 (S20.get 0 rfl) hp2) rfl rfl ?_)
          rintro e21 w21 ⟨v21, rfl, l21, rfl⟩
          refine ⟨_, rfl, l21, ?_⟩
          have S21 := S20.like l21
          have q21 := l21
          refine DL_gyes rfl rfl rfl (y_eql rfl rfl) rfl ?_
          refine DL_y rfl (y_pk rfl rfl) rfl ?_
          refine DL_y rfl (y_move rfl) rfl ?_
          refine DL_split 74 rfl (fun h74 => ?_) (fun h74 => ?_)
          ·
            refine DL_gyes rfl rfl rfl (y_move rfl) rfl ?_
            refine DL_gyes rfl rfl rfl (y_move rfl) rfl ?_
            refine DL_gyes rfl rfl rfl (y_nilp rfl) rfl ?_
            refine DL_gyes rfl rfl rfl (y_fieldA 1 Try.underlying48 rfl sz3 rfl rfl rfl) rfl ?_
            refine DL_gyes rfl rfl rfl (y_ldc Try.underlying3 rfl rfl (((S20.blk 1 rfl).cell _).trans (by rfl))) rfl ?_
            refine DL_ogyes rfl rfl rfl (o_call Try.func22 rfl rfl (rat g A n c l _ _ w21 (S21.get 0 rfl) hp2) rfl rfl ?_)
            rintro e22 w22 ⟨v22, rfl, l22, rfl⟩
            refine ⟨_, rfl, (Like.trans q21 l22), ?_⟩
            have S22 := S21.like l22
            have q22 := (Like.trans q21 l22)
            refine DL_gyes rfl rfl rfl (y_eql rfl rfl) rfl ?_
            refine DL_y rfl (y_pk rfl rfl) rfl ?_
            refine DL_y rfl (y_move rfl) rfl ?_
            refine DL_split 83 rfl (fun h83 => ?_) (fun h83 => ?_)
            ·
              refine DL_gyes rfl rfl rfl (y_move rfl) rfl ?_
              refine DL_gyes rfl rfl rfl (y_move rfl) rfl ?_
              refine DL_gyes rfl rfl rfl (y_nilp rfl) rfl ?_
              refine DL_gyes rfl rfl rfl (y_fieldA 0 Try.underlying48 rfl sz25 rfl rfl rfl) rfl ?_
              refine DL_gyes rfl rfl rfl (y_ldc Try.underlying25 rfl rfl (((S20.blk 1 rfl).cell _).trans (by rfl))) rfl ?_
              refine DL_gyes rfl rfl rfl (y_len Try.underlying25 rfl) rfl ?_
              refine DL_gyes rfl rfl rfl (y_move rfl) rfl ?_
              refine DL_gyes rfl rfl rfl (y_nilp rfl) rfl ?_
              refine DL_gyes rfl rfl rfl (y_fieldA 1 Try.underlying48 rfl sz3 rfl rfl rfl) rfl ?_
              refine DL_gyes rfl rfl rfl (y_ldc Try.underlying3 rfl rfl (((S20.blk 1 rfl).cell _).trans (by rfl))) rfl ?_
              refine DL_gyes rfl rfl rfl (y_sub rfl rfl (i64w (by omega))) rfl ?_
              refine DL_ogyes rfl rfl rfl (o_call Try.func19 rfl rfl (rleft g A n c l _ _ w22 (S22.get 0 rfl) hp2) rfl rfl ?_)
              rintro e23 w23 ⟨v23, rfl, l23, rfl⟩
              refine ⟨_, rfl, (Like.trans q22 l23), ?_⟩
              have S23 := S22.like l23
              have q23 := (Like.trans q22 l23)
              refine DL_gyes rfl rfl rfl (y_eql rfl rfl) rfl ?_
              refine DL_y rfl (y_pk rfl rfl) rfl ?_
              refine DL_y rfl (y_move rfl) rfl ?_
              refine DL_split 98 rfl (fun h98 => ?_) (fun h98 => ?_)
              ·
                refine DL_gyes rfl rfl rfl (y_move rfl) rfl ?_
                refine DL_gyes rfl rfl rfl (y_move rfl) rfl ?_
                refine DL_ogyes rfl rfl rfl (o_call Try.func28 rfl rfl (rend g A n c l _ _ w23 (S23.get 0 rfl) hp2) rfl rfl ?_)
                rintro e24 w24 ⟨v24, rfl, l24, rfl⟩
                refine ⟨_, rfl, (Like.trans q23 l24), ?_⟩
                have S24 := S23.like l24
                have q24 := (Like.trans q23 l24)
                refine DL_ogyes rfl rfl rfl (o_call Try.func44 rfl rfl (xend g2 B nb cb l _ _ w24 (S24.get 1 rfl) (S24.rdM hb hM) hp2 (by omega)) rfl rfl ?_)
                rintro e25 w25 ⟨v25, rfl, l25, rfl⟩
                refine ⟨_, rfl, (Like.trans q24 l25), ?_⟩
                have S25 := S24.like l25
                have q25 := (Like.trans q24 l25)
                refine DL_gyes rfl rfl rfl (y_eql rfl rfl) rfl ?_
                refine DL_y rfl (y_pk rfl rfl) rfl ?_
                refine DL_y rfl (y_assign rfl) rfl ?_
                refine DL_nil ?_
                refine hK10 _ _ ?_
                refine T_ret ?_
                refine ur ?_
                refine ret1 rfl rfl ?_
                exact ⟨_, rfl, by rw [show nb = n by omega]; exact congrArg Value.bool (decide_eq_true rfl), _, _, hp2, S25.turned2 0 1 rfl rfl⟩
              ·
                exact absurd (by omega) h98
            ·
              exact absurd rfl h83
          ·
            exact absurd rfl h74
        ·
          exact absurd rfl h65
      ·
        refine T_seq fun K11 hK11 => ?_
        refine T_region ?_
        refine L_y (y_eql rfl rfl) rfl ?_
        refine L_y (y_assign rfl) rfl ?_
        refine L_nil ?_
        refine hK11 _ _ ?_
        refine T_cond rfl (fun h42 => ?_) (fun h42 => ?_)
        ·
          have hp2 : (vaN l p q tx).2.1 ≤ l.length := vaN_le l p q _ hp
          refine T_drawn (fun w => Blk w b1 51 #[.int .i64 td, .int .u64 (tx : Int), .int .i64 tm]) [(0, true), (1, true), (2, true), (4, true), (5, true), (6, true), (3, false), (7, false), (8, true), (9, true)] hmix (by kernel_rfl) (fun w l => (S1.like l).blk 2 rfl) fun w26 l26 => ?_
          have S26 := S1.like l26
          refine DL_y rfl (y_move rfl) rfl ?_
          refine DL_y rfl (y_fieldA 1 Try.underlying51 rfl sz27 rfl rfl rfl) rfl ?_
          refine DL_y rfl (y_ldS Try.underlying27 rfl rfl (fun w h => (h.cell _).trans (by rfl))) rfl ?_
          refine DL_y rfl (y_move rfl) rfl ?_
          refine DL_y rfl (y_fieldA 1 Try.underlying51 rfl sz27 rfl rfl rfl) rfl ?_
          refine DL_y rfl (y_ldS Try.underlying27 rfl rfl (fun w h => (h.cell _).trans (by rfl))) rfl ?_
          refine DL_o rfl (o_call Try.func16 rfl rfl (rvar g A n c l p q tx w26 (S26.get 0 rfl) hp (by omega)) rfl rfl ?_)
          rintro e27 w27 ⟨v27, rfl, rfl, T27⟩
          refine ⟨_, rfl, ?_⟩
          have S27 := S26.turn 0 rfl T27
          refine ⟨S27.blk 2 rfl, ?_⟩
          refine DL_o rfl (o_call Try.func41 rfl rfl (xvar g2 B nb cb l p q tx w27 (S27.get 1 rfl) (S27.rdM hb hM) hp (by omega) hbg) rfl rfl ?_)
          rintro e28 w28 ⟨v28, rfl, rfl, T28⟩
          refine ⟨_, rfl, ?_⟩
          have S28 := S27.turn 1 rfl T28
          refine ⟨S28.blk 2 rfl, ?_⟩
          refine DL_y rfl (y_eql rfl rfl) rfl ?_
          refine DL_y rfl (y_assign rfl) rfl ?_
          refine DL_nil ?_
          refine hK3 _ _ ?_
          refine T_seq fun K12 hK12 => ?_
          refine T_drawnL [(0, true), (1, true), (2, true), (4, true), (5, true), (6, true), (7, true), (3, false), (8, true), (9, true), (10, true), (11, true), (13, true), (14, true), (15, true), (16, true), (12, false), (17, true), (18, true), (19, true), (20, true), (22, true), (23, true), (24, true), (25, true), (26, true), (27, true), (28, true), (29, true), (30, true), (31, true), (21, false), (32, true), (33, true), (34, true), (35, true), (37, true), (36, false), (38, false), (39, true), (40, true), (41, true)] hmix (by kernel_rfl) fun w29 l29 => ?_
          have S29 := S28.like l29
          refine DL_y rfl (y_move rfl) rfl ?_
          refine DL_y rfl (y_move rfl) rfl ?_
          refine DL_split 65 rfl (fun h65 => ?_) (fun h65 => ?_)
          ·
            refine DL_gyes rfl rfl rfl (y_move rfl) rfl ?_
            refine DL_gyes rfl rfl rfl (y_move rfl) rfl ?_
            refine DL_gyes rfl rfl rfl (y_nilp rfl) rfl ?_
            refine DL_gyes rfl rfl rfl (y_fieldA 2 Try.underlying48 rfl sz3 rfl rfl rfl) rfl ?_
            refine DL_gyes rfl rfl rfl (y_ldc Try.underlying3 rfl rfl (((S29.blk 1 rfl).cell _).trans (by rfl))) rfl ?_
            refine DL_ogyes rfl rfl rfl (o_call Try.func18 rfl rfl (rerr g A n c l _ _ w29 (S29.get 0 rfl) hp2) rfl rfl ?_)
            rintro e30 w30 ⟨v30, rfl, l30, rfl⟩
            refine ⟨_, rfl, l30, ?_⟩
            have S30 := S29.like l30
            have q30 := l30
            refine DL_gyes rfl rfl rfl (y_eql rfl rfl) rfl ?_
            refine DL_y rfl (y_pk rfl rfl) rfl ?_
            refine DL_y rfl (y_move rfl) rfl ?_
            refine DL_split 74 rfl (fun h74 => ?_) (fun h74 => ?_)
            ·
              refine DL_gyes rfl rfl rfl (y_move rfl) rfl ?_
              refine DL_gyes rfl rfl rfl (y_move rfl) rfl ?_
              refine DL_gyes rfl rfl rfl (y_nilp rfl) rfl ?_
              refine DL_gyes rfl rfl rfl (y_fieldA 1 Try.underlying48 rfl sz3 rfl rfl rfl) rfl ?_
              refine DL_gyes rfl rfl rfl (y_ldc Try.underlying3 rfl rfl (((S29.blk 1 rfl).cell _).trans (by rfl))) rfl ?_
              refine DL_ogyes rfl rfl rfl (o_call Try.func22 rfl rfl (rat g A n c l _ _ w30 (S30.get 0 rfl) hp2) rfl rfl ?_)
              rintro e31 w31 ⟨v31, rfl, l31, rfl⟩
              refine ⟨_, rfl, (Like.trans q30 l31), ?_⟩
              have S31 := S30.like l31
              have q31 := (Like.trans q30 l31)
              refine DL_gyes rfl rfl rfl (y_eql rfl rfl) rfl ?_
              refine DL_y rfl (y_pk rfl rfl) rfl ?_
              refine DL_y rfl (y_move rfl) rfl ?_
              refine DL_split 83 rfl (fun h83 => ?_) (fun h83 => ?_)
              ·
                refine DL_gyes rfl rfl rfl (y_move rfl) rfl ?_
                refine DL_gyes rfl rfl rfl (y_move rfl) rfl ?_
                refine DL_gyes rfl rfl rfl (y_nilp rfl) rfl ?_
                refine DL_gyes rfl rfl rfl (y_fieldA 0 Try.underlying48 rfl sz25 rfl rfl rfl) rfl ?_
                refine DL_gyes rfl rfl rfl (y_ldc Try.underlying25 rfl rfl (((S29.blk 1 rfl).cell _).trans (by rfl))) rfl ?_
                refine DL_gyes rfl rfl rfl (y_len Try.underlying25 rfl) rfl ?_
                refine DL_gyes rfl rfl rfl (y_move rfl) rfl ?_
                refine DL_gyes rfl rfl rfl (y_nilp rfl) rfl ?_
                refine DL_gyes rfl rfl rfl (y_fieldA 1 Try.underlying48 rfl sz3 rfl rfl rfl) rfl ?_
                refine DL_gyes rfl rfl rfl (y_ldc Try.underlying3 rfl rfl (((S29.blk 1 rfl).cell _).trans (by rfl))) rfl ?_
                refine DL_gyes rfl rfl rfl (y_sub rfl rfl (i64w (by omega))) rfl ?_
                refine DL_ogyes rfl rfl rfl (o_call Try.func19 rfl rfl (rleft g A n c l _ _ w31 (S31.get 0 rfl) hp2) rfl rfl ?_)
                rintro e32 w32 ⟨v32, rfl, l32, rfl⟩
                refine ⟨_, rfl, (Like.trans q31 l32), ?_⟩
                have S32 := S31.like l32
                have q32 := (Like.trans q31 l32)
                refine DL_gyes rfl rfl rfl (y_eql rfl rfl) rfl ?_
                refine DL_y rfl (y_pk rfl rfl) rfl ?_
                refine DL_y rfl (y_move rfl) rfl ?_
                refine DL_split 98 rfl (fun h98 => ?_) (fun h98 => ?_)
                ·
                  refine DL_gyes rfl rfl rfl (y_move rfl) rfl ?_
                  refine DL_gyes rfl rfl rfl (y_move rfl) rfl ?_
                  refine DL_ogyes rfl rfl rfl (o_call Try.func28 rfl rfl (rend g A n c l _ _ w32 (S32.get 0 rfl) hp2) rfl rfl ?_)
                  rintro e33 w33 ⟨v33, rfl, l33, rfl⟩
                  refine ⟨_, rfl, (Like.trans q32 l33), ?_⟩
                  have S33 := S32.like l33
                  have q33 := (Like.trans q32 l33)
                  refine DL_ogyes rfl rfl rfl (o_call Try.func44 rfl rfl (xend g2 B nb cb l _ _ w33 (S33.get 1 rfl) (S33.rdM hb hM) hp2 (by omega)) rfl rfl ?_)
                  rintro e34 w34 ⟨v34, rfl, l34, rfl⟩
                  refine ⟨_, rfl, (Like.trans q33 l34), ?_⟩
                  have S34 := S33.like l34
                  have q34 := (Like.trans q33 l34)
                  refine DL_gyes rfl rfl rfl (y_eql rfl rfl) rfl ?_
                  refine DL_y rfl (y_pk rfl rfl) rfl ?_
                  refine DL_y rfl (y_assign rfl) rfl ?_
                  refine DL_nil ?_
                  refine hK12 _ _ ?_
                  refine T_ret ?_
                  refine ur ?_
                  refine ret1 rfl rfl ?_
                  exact ⟨_, rfl, by rw [show nb = n by omega]; exact congrArg Value.bool (decide_eq_true rfl), _, _, hp2, S34.turned2 0 1 rfl rfl⟩
                ·
                  exact absurd (by omega) h98
              ·
                exact absurd rfl h83
            ·
              exact absurd rfl h74
          ·
            exact absurd rfl h65
        ·
          refine T_seq fun K13 hK13 => ?_
          refine T_region ?_
          refine L_y (y_eql rfl rfl) rfl ?_
          refine L_y (y_assign rfl) rfl ?_
          refine L_nil ?_
          refine hK13 _ _ ?_
          refine T_cond rfl (fun h53 => ?_) (fun h53 => ?_)
          ·
            have hp2 : (txN l p q tm).2.1 ≤ l.length := txN_le l p q _ hp
            refine T_drawn (fun w => Blk w b1 51 #[.int .i64 td, .int .u64 (tx : Int), .int .i64 tm]) [(0, true), (1, true), (2, true), (4, true), (5, true), (6, true), (3, false), (7, false), (8, true), (9, true)] hmix (by kernel_rfl) (fun w l => (S1.like l).blk 2 rfl) fun w35 l35 => ?_
            have S35 := S1.like l35
            refine DL_y rfl (y_move rfl) rfl ?_
            refine DL_y rfl (y_fieldA 2 Try.underlying51 rfl sz3 rfl rfl rfl) rfl ?_
            refine DL_y rfl (y_ldS Try.underlying3 rfl rfl (fun w h => (h.cell _).trans (by rfl))) rfl ?_
            refine DL_y rfl (y_move rfl) rfl ?_
            refine DL_y rfl (y_fieldA 2 Try.underlying51 rfl sz3 rfl rfl rfl) rfl ?_
            refine DL_y rfl (y_ldS Try.underlying3 rfl rfl (fun w h => (h.cell _).trans (by rfl))) rfl ?_
            refine DL_o rfl (o_call Try.func17 rfl rfl (rtext g A n c l p q tm w35 (S35.get 0 rfl) hp (by omega) htm) rfl rfl ?_)
            rintro e36 w36 ⟨v36, rfl, rfl, T36⟩
            refine ⟨_, rfl, ?_⟩
            have S36 := S35.turn 0 rfl T36
            refine ⟨S36.blk 2 rfl, ?_⟩
            refine DL_o rfl (o_call Try.func42 rfl rfl (xtext g2 B nb cb l p q tm w36 (S36.get 1 rfl) (S36.rdM hb hM) hp (by omega) hbg htm) rfl rfl ?_)
            rintro e37 w37 ⟨v37, rfl, rfl, T37⟩
            refine ⟨_, rfl, ?_⟩
            have S37 := S36.turn 1 rfl T37
            refine ⟨S37.blk 2 rfl, ?_⟩
            refine DL_y rfl (y_seql rfl rfl) rfl ?_
            refine DL_y rfl (y_assign rfl) rfl ?_
            refine DL_nil ?_
            refine hK3 _ _ ?_
            refine T_seq fun K14 hK14 => ?_
            refine T_drawnL [(0, true), (1, true), (2, true), (4, true), (5, true), (6, true), (7, true), (3, false), (8, true), (9, true), (10, true), (11, true), (13, true), (14, true), (15, true), (16, true), (12, false), (17, true), (18, true), (19, true), (20, true), (22, true), (23, true), (24, true), (25, true), (26, true), (27, true), (28, true), (29, true), (30, true), (31, true), (21, false), (32, true), (33, true), (34, true), (35, true), (37, true), (36, false), (38, false), (39, true), (40, true), (41, true)] hmix (by kernel_rfl) fun w38 l38 => ?_
            have S38 := S37.like l38
            refine DL_y rfl (y_move rfl) rfl ?_
            refine DL_y rfl (y_move rfl) rfl ?_
            refine DL_split 65 rfl (fun h65 => ?_) (fun h65 => ?_)
            ·
              refine DL_gyes rfl rfl rfl (y_move rfl) rfl ?_
              refine DL_gyes rfl rfl rfl (y_move rfl) rfl ?_
              refine DL_gyes rfl rfl rfl (y_nilp rfl) rfl ?_
              refine DL_gyes rfl rfl rfl (y_fieldA 2 Try.underlying48 rfl sz3 rfl rfl rfl) rfl ?_
              refine DL_gyes rfl rfl rfl (y_ldc Try.underlying3 rfl rfl (((S38.blk 1 rfl).cell _).trans (by rfl))) rfl ?_
              refine DL_ogyes rfl rfl rfl (o_call Try.func18 rfl rfl (rerr g A n c l _ _ w38 (S38.get 0 rfl) hp2) rfl rfl ?_)
              rintro e39 w39 ⟨v39, rfl, l39, rfl⟩
              refine ⟨_, rfl, l39, ?_⟩
              have S39 := S38.like l39
              have q39 := l39
              refine DL_gyes rfl rfl rfl (y_eql rfl rfl) rfl ?_
              refine DL_y rfl (y_pk rfl rfl) rfl ?_
              refine DL_y rfl (y_move rfl) rfl ?_
              refine DL_split 74 rfl (fun h74 => ?_) (fun h74 => ?_)
              ·
                refine DL_gyes rfl rfl rfl (y_move rfl) rfl ?_
                refine DL_gyes rfl rfl rfl (y_move rfl) rfl ?_
                refine DL_gyes rfl rfl rfl (y_nilp rfl) rfl ?_
                refine DL_gyes rfl rfl rfl (y_fieldA 1 Try.underlying48 rfl sz3 rfl rfl rfl) rfl ?_
                refine DL_gyes rfl rfl rfl (y_ldc Try.underlying3 rfl rfl (((S38.blk 1 rfl).cell _).trans (by rfl))) rfl ?_
                refine DL_ogyes rfl rfl rfl (o_call Try.func22 rfl rfl (rat g A n c l _ _ w39 (S39.get 0 rfl) hp2) rfl rfl ?_)
                rintro e40 w40 ⟨v40, rfl, l40, rfl⟩
                refine ⟨_, rfl, (Like.trans q39 l40), ?_⟩
                have S40 := S39.like l40
                have q40 := (Like.trans q39 l40)
                refine DL_gyes rfl rfl rfl (y_eql rfl rfl) rfl ?_
                refine DL_y rfl (y_pk rfl rfl) rfl ?_
                refine DL_y rfl (y_move rfl) rfl ?_
                refine DL_split 83 rfl (fun h83 => ?_) (fun h83 => ?_)
                ·
                  refine DL_gyes rfl rfl rfl (y_move rfl) rfl ?_
                  refine DL_gyes rfl rfl rfl (y_move rfl) rfl ?_
                  refine DL_gyes rfl rfl rfl (y_nilp rfl) rfl ?_
                  refine DL_gyes rfl rfl rfl (y_fieldA 0 Try.underlying48 rfl sz25 rfl rfl rfl) rfl ?_
                  refine DL_gyes rfl rfl rfl (y_ldc Try.underlying25 rfl rfl (((S38.blk 1 rfl).cell _).trans (by rfl))) rfl ?_
                  refine DL_gyes rfl rfl rfl (y_len Try.underlying25 rfl) rfl ?_
                  refine DL_gyes rfl rfl rfl (y_move rfl) rfl ?_
                  refine DL_gyes rfl rfl rfl (y_nilp rfl) rfl ?_
                  refine DL_gyes rfl rfl rfl (y_fieldA 1 Try.underlying48 rfl sz3 rfl rfl rfl) rfl ?_
                  refine DL_gyes rfl rfl rfl (y_ldc Try.underlying3 rfl rfl (((S38.blk 1 rfl).cell _).trans (by rfl))) rfl ?_
                  refine DL_gyes rfl rfl rfl (y_sub rfl rfl (i64w (by omega))) rfl ?_
                  refine DL_ogyes rfl rfl rfl (o_call Try.func19 rfl rfl (rleft g A n c l _ _ w40 (S40.get 0 rfl) hp2) rfl rfl ?_)
                  rintro e41 w41 ⟨v41, rfl, l41, rfl⟩
                  refine ⟨_, rfl, (Like.trans q40 l41), ?_⟩
                  have S41 := S40.like l41
                  have q41 := (Like.trans q40 l41)
                  refine DL_gyes rfl rfl rfl (y_eql rfl rfl) rfl ?_
                  refine DL_y rfl (y_pk rfl rfl) rfl ?_
                  refine DL_y rfl (y_move rfl) rfl ?_
                  refine DL_split 98 rfl (fun h98 => ?_) (fun h98 => ?_)
                  ·
                    refine DL_gyes rfl rfl rfl (y_move rfl) rfl ?_
                    refine DL_gyes rfl rfl rfl (y_move rfl) rfl ?_
                    refine DL_ogyes rfl rfl rfl (o_call Try.func28 rfl rfl (rend g A n c l _ _ w41 (S41.get 0 rfl) hp2) rfl rfl ?_)
                    rintro e42 w42 ⟨v42, rfl, l42, rfl⟩
                    refine ⟨_, rfl, (Like.trans q41 l42), ?_⟩
                    have S42 := S41.like l42
                    have q42 := (Like.trans q41 l42)
                    refine DL_ogyes rfl rfl rfl (o_call Try.func44 rfl rfl (xend g2 B nb cb l _ _ w42 (S42.get 1 rfl) (S42.rdM hb hM) hp2 (by omega)) rfl rfl ?_)
                    rintro e43 w43 ⟨v43, rfl, l43, rfl⟩
                    refine ⟨_, rfl, (Like.trans q42 l43), ?_⟩
                    have S43 := S42.like l43
                    have q43 := (Like.trans q42 l43)
                    refine DL_gyes rfl rfl rfl (y_eql rfl rfl) rfl ?_
                    refine DL_y rfl (y_pk rfl rfl) rfl ?_
                    refine DL_y rfl (y_assign rfl) rfl ?_
                    refine DL_nil ?_
                    refine hK14 _ _ ?_
                    refine T_ret ?_
                    refine ur ?_
                    refine ret1 rfl rfl ?_
                    exact ⟨_, rfl, by rw [show nb = n by omega]; exact congrArg Value.bool (decide_eq_true rfl), _, _, hp2, S43.turned2 0 1 rfl rfl⟩
                  ·
                    exact absurd (by omega) h98
                ·
                  exact absurd rfl h83
              ·
                exact absurd rfl h74
            ·
              exact absurd rfl h65
          ·
            have hp2 : rnP l p q tm ≤ l.length := rn_at l p q _ hp
            refine T_drawn (fun w => Blk w b1 51 #[.int .i64 td, .int .u64 (tx : Int), .int .i64 tm]) [(0, true), (1, true), (2, true), (4, true), (5, true), (6, true), (3, false), (7, false), (8, false), (9, true)] hmix (by kernel_rfl) (fun w l => (S1.like l).blk 2 rfl) fun w44 l44 => ?_
            have S44 := S1.like l44
            refine DL_y rfl (y_move rfl) rfl ?_
            refine DL_y rfl (y_fieldA 2 Try.underlying51 rfl sz3 rfl rfl rfl) rfl ?_
            refine DL_y rfl (y_ldS Try.underlying3 rfl rfl (fun w h => (h.cell _).trans (by rfl))) rfl ?_
            refine DL_y rfl (y_move rfl) rfl ?_
            refine DL_y rfl (y_fieldA 2 Try.underlying51 rfl sz3 rfl rfl rfl) rfl ?_
            refine DL_y rfl (y_ldS Try.underlying3 rfl rfl (fun w h => (h.cell _).trans (by rfl))) rfl ?_
            refine DL_o rfl (o_call Try.func27 rfl rfl (rraw g A n c l p q tm w44 (S44.get 0 rfl) hp (by omega) htm) rfl rfl ?_)
            rintro e45 w45 ⟨v45, rfl, T45, B45, d45, rfl, hr45, hd45⟩
            refine ⟨_, rfl, ?_⟩
            have S45 := S44.turn 0 rfl T45
            have S46 := St.newT S44 0 rfl T45 (fun i hi => hi) hr45 (fun i hi => ⟨hd45 i hi, (World.ownsRow.lt hr45 i hi).2⟩)
            refine ⟨S46.blk 2 rfl, ?_⟩
            refine DL_o rfl (o_call Try.func43 rfl rfl (xraw g2 B nb cb l p q tm w45 (S46.get 1 rfl) (S46.rdM hb hM) hp (by omega) hbg htm) rfl rfl ?_)
            rintro e47 w47 ⟨v47, rfl, T47, B47, d47, rfl, hr47, hd47⟩
            refine ⟨_, rfl, ?_⟩
            have S47 := S46.turn 1 rfl T47
            have S48 := St.newT S46 1 rfl T47 (fun i hi => hi) hr47 (fun i hi => ⟨hd47 i hi, (World.ownsRow.lt hr47 i hi).2⟩)
            refine ⟨S48.blk 2 rfl, ?_⟩
            refine DL_o rfl (o_call Try.func12 rfl rfl (same _ _ _ _ _ _ _ _ w47 (rs_of_row (S48.get 3 rfl)) (rs_of_row (S48.get 4 rfl))) rfl rfl ?_)
            rintro e49 w49 ⟨v49, rfl, l49, rfl⟩
            refine ⟨_, rfl, ?_⟩
            have S49 := S48.like l49
            refine ⟨S49.blk 2 rfl, ?_⟩
            refine DL_y rfl (y_assign rfl) rfl ?_
            refine DL_nil ?_
            refine hK3 _ _ ?_
            refine T_seq fun K15 hK15 => ?_
            refine T_drawnL [(0, true), (1, true), (2, true), (4, true), (5, true), (6, true), (7, true), (3, false), (8, true), (9, true), (10, true), (11, true), (13, true), (14, true), (15, true), (16, true), (12, false), (17, true), (18, true), (19, true), (20, true), (22, true), (23, true), (24, true), (25, true), (26, true), (27, true), (28, true), (29, true), (30, true), (31, true), (21, false), (32, true), (33, true), (34, true), (35, true), (37, true), (36, false), (38, false), (39, true), (40, true), (41, true)] hmix (by kernel_rfl) fun w50 l50 => ?_
            have S50 := S49.like l50
            refine DL_y rfl (y_move rfl) rfl ?_
            refine DL_y rfl (y_move rfl) rfl ?_
            refine DL_split 65 rfl (fun h65 => ?_) (fun h65 => ?_)
            ·
              refine DL_gyes rfl rfl rfl (y_move rfl) rfl ?_
              refine DL_gyes rfl rfl rfl (y_move rfl) rfl ?_
              refine DL_gyes rfl rfl rfl (y_nilp rfl) rfl ?_
              refine DL_gyes rfl rfl rfl (y_fieldA 2 Try.underlying48 rfl sz3 rfl rfl rfl) rfl ?_
              refine DL_gyes rfl rfl rfl (y_ldc Try.underlying3 rfl rfl (((S50.blk 1 rfl).cell _).trans (by rfl))) rfl ?_
              refine DL_ogyes rfl rfl rfl (o_call Try.func18 rfl rfl (rerr g A n c l _ _ w50 (S50.get 0 rfl) hp2) rfl rfl ?_)
              rintro e51 w51 ⟨v51, rfl, l51, rfl⟩
              refine ⟨_, rfl, l51, ?_⟩
              have S51 := S50.like l51
              have q51 := l51
              refine DL_gyes rfl rfl rfl (y_eql rfl rfl) rfl ?_
              refine DL_y rfl (y_pk rfl rfl) rfl ?_
              refine DL_y rfl (y_move rfl) rfl ?_
              refine DL_split 74 rfl (fun h74 => ?_) (fun h74 => ?_)
              ·
                refine DL_gyes rfl rfl rfl (y_move rfl) rfl ?_
                refine DL_gyes rfl rfl rfl (y_move rfl) rfl ?_
                refine DL_gyes rfl rfl rfl (y_nilp rfl) rfl ?_
                refine DL_gyes rfl rfl rfl (y_fieldA 1 Try.underlying48 rfl sz3 rfl rfl rfl) rfl ?_
                refine DL_gyes rfl rfl rfl (y_ldc Try.underlying3 rfl rfl (((S50.blk 1 rfl).cell _).trans (by rfl))) rfl ?_
                refine DL_ogyes rfl rfl rfl (o_call Try.func22 rfl rfl (rat g A n c l _ _ w51 (S51.get 0 rfl) hp2) rfl rfl ?_)
                rintro e52 w52 ⟨v52, rfl, l52, rfl⟩
                refine ⟨_, rfl, (Like.trans q51 l52), ?_⟩
                have S52 := S51.like l52
                have q52 := (Like.trans q51 l52)
                refine DL_gyes rfl rfl rfl (y_eql rfl rfl) rfl ?_
                refine DL_y rfl (y_pk rfl rfl) rfl ?_
                refine DL_y rfl (y_move rfl) rfl ?_
                refine DL_split 83 rfl (fun h83 => ?_) (fun h83 => ?_)
                ·
                  refine DL_gyes rfl rfl rfl (y_move rfl) rfl ?_
                  refine DL_gyes rfl rfl rfl (y_move rfl) rfl ?_
                  refine DL_gyes rfl rfl rfl (y_nilp rfl) rfl ?_
                  refine DL_gyes rfl rfl rfl (y_fieldA 0 Try.underlying48 rfl sz25 rfl rfl rfl) rfl ?_
                  refine DL_gyes rfl rfl rfl (y_ldc Try.underlying25 rfl rfl (((S50.blk 1 rfl).cell _).trans (by rfl))) rfl ?_
                  refine DL_gyes rfl rfl rfl (y_len Try.underlying25 rfl) rfl ?_
                  refine DL_gyes rfl rfl rfl (y_move rfl) rfl ?_
                  refine DL_gyes rfl rfl rfl (y_nilp rfl) rfl ?_
                  refine DL_gyes rfl rfl rfl (y_fieldA 1 Try.underlying48 rfl sz3 rfl rfl rfl) rfl ?_
                  refine DL_gyes rfl rfl rfl (y_ldc Try.underlying3 rfl rfl (((S50.blk 1 rfl).cell _).trans (by rfl))) rfl ?_
                  refine DL_gyes rfl rfl rfl (y_sub rfl rfl (i64w (by omega))) rfl ?_
                  refine DL_ogyes rfl rfl rfl (o_call Try.func19 rfl rfl (rleft g A n c l _ _ w52 (S52.get 0 rfl) hp2) rfl rfl ?_)
                  rintro e53 w53 ⟨v53, rfl, l53, rfl⟩
                  refine ⟨_, rfl, (Like.trans q52 l53), ?_⟩
                  have S53 := S52.like l53
                  have q53 := (Like.trans q52 l53)
                  refine DL_gyes rfl rfl rfl (y_eql rfl rfl) rfl ?_
                  refine DL_y rfl (y_pk rfl rfl) rfl ?_
                  refine DL_y rfl (y_move rfl) rfl ?_
                  refine DL_split 98 rfl (fun h98 => ?_) (fun h98 => ?_)
                  ·
                    refine DL_gyes rfl rfl rfl (y_move rfl) rfl ?_
                    refine DL_gyes rfl rfl rfl (y_move rfl) rfl ?_
                    refine DL_ogyes rfl rfl rfl (o_call Try.func28 rfl rfl (rend g A n c l _ _ w53 (S53.get 0 rfl) hp2) rfl rfl ?_)
                    rintro e54 w54 ⟨v54, rfl, l54, rfl⟩
                    refine ⟨_, rfl, (Like.trans q53 l54), ?_⟩
                    have S54 := S53.like l54
                    have q54 := (Like.trans q53 l54)
                    refine DL_ogyes rfl rfl rfl (o_call Try.func44 rfl rfl (xend g2 B nb cb l _ _ w54 (S54.get 1 rfl) (S54.rdM hb hM) hp2 (by omega)) rfl rfl ?_)
                    rintro e55 w55 ⟨v55, rfl, l55, rfl⟩
                    refine ⟨_, rfl, (Like.trans q54 l55), ?_⟩
                    have S55 := S54.like l55
                    have q55 := (Like.trans q54 l55)
                    refine DL_gyes rfl rfl rfl (y_eql rfl rfl) rfl ?_
                    refine DL_y rfl (y_pk rfl rfl) rfl ?_
                    refine DL_y rfl (y_assign rfl) rfl ?_
                    refine DL_nil ?_
                    refine hK15 _ _ ?_
                    refine T_ret ?_
                    refine ur ?_
                    refine ret1 rfl rfl ?_
                    exact ⟨_, rfl, by rw [show nb = n by omega]; exact congrArg Value.bool (decide_eq_true rfl), _, _, hp2, S55.turned2 0 1 rfl rfl⟩
                  ·
                    exact absurd (by omega) h98
                ·
                  exact absurd rfl h83
              ·
                exact absurd rfl h74
            ·
              exact absurd rfl h65
end Go.Proofs.Ytcbnhmcfdpcbhaa
