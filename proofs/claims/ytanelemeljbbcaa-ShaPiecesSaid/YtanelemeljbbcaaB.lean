/-
  The schedule of a block, by package sha.
-/
import Derived.Test.YtanelemeljbbcaaA
namespace Go.Proofs.Ytanelemeljbbcaa
open Go.RowKit Zk
set_option linter.unusedVariables false

theorem size54 : (Try.prog.info? 54).map (·.size) = some 64 := by kernel_rfl
theorem size35 : (Try.prog.info? 35).map (·.size) = some 8 := by kernel_rfl
def z64 : List UInt32 := List.replicate 64 0
theorem zero54 (W : World) : (zeroValue 54).run Try.prog W = .ok (.agg (uA z64)) W := by kernel_rfl
theorem reads_cell {w : World} {B : Nat} {A : Option Addr} {n k : Nat} {b : List UInt8} {c : UInt8} (h : Reads w B 1 A n (bL b)) (hk : b[k]? = some c) (g off : Nat) (hA : A = some ⟨g, off, none⟩) : w.cell? ⟨g, off + k, none⟩ = some (.int .u8 (c.toNat : Int)) := by
  have hl : k < n := by
    have h1 := (List.getElem?_eq_some_iff.1 hk).1
    have h2 := h.1
    simp at h2
    omega
  obtain ⟨ad, h3, _, h4⟩ := h.2 (by omega)
  subst hA
  cases h3
  have := h4 k _ (bL_get b k c hk)
  rwa [Addr.add_mid] at this

attribute [local go_sem] xorN addN addW andN notN shr3N shr10N
theorem sched_set (b : List UInt8) (k : Nat) (h : k < 64) (x : UInt32) : (sched b k ++ z64.drop k).set k x = sched b k ++ [x] ++ z64.drop (k + 1) := by
  rw [List.set_append_right _ _ (by rw [length_sched]; omega)]
  simp only [length_sched, Nat.sub_self]
  rw [List.drop_eq_getElem_cons (by simp [z64]; omega), List.set_cons_zero]
  simp
theorem or_join (a b : Nat) (k : Nat) (hb : b < 2 ^ k) : (a * 2 ^ k) ||| b = a * 2 ^ k + b := by
  have := Nat.two_pow_add_eq_or_of_lt hb a
  rw [Nat.mul_comm] at this
  exact this.symm
theorem wordO (x0 x1 x2 x3 : UInt8) : bits BinOp.or IntKind.u32 (bits BinOp.or IntKind.u32 (bits BinOp.or IntKind.u32 (IntKind.u32.wrap (IntKind.u32.wrap (x0.toNat : Int) * 16777216)) (IntKind.u32.wrap (IntKind.u32.wrap (x1.toNat : Int) * 65536)))
    (IntKind.u32.wrap (IntKind.u32.wrap (x2.toNat : Int) * 256))) (IntKind.u32.wrap (x3.toNat : Int)) = ((UInt32.ofNat (((x0.toNat * 256 + x1.toNat) * 256 + x2.toNat) * 256 + x3.toNat)).toNat : Int) := by
  have h0 := x0.toNat_lt
  have h1 := x1.toNat_lt
  have h2 := x2.toNat_lt
  have h3 := x3.toNat_lt
  simp only [IntKind.wrap_u32]
  have e0 : ((x0.toNat : Int) % 4294967296 * 16777216 % 4294967296) = ((x0.toNat * 2 ^ 24 : Nat) : Int) := by omega
  have e1 : ((x1.toNat : Int) % 4294967296 * 65536 % 4294967296) = ((x1.toNat * 2 ^ 16 : Nat) : Int) := by omega
  have e2 : ((x2.toNat : Int) % 4294967296 * 256 % 4294967296) = ((x2.toNat * 2 ^ 8 : Nat) : Int) := by omega
  have e3 : ((x3.toNat : Int) % 4294967296) = (x3.toNat : Int) := by omega
  rw [e0, e1, e2, e3, u32_or_nat _ _ (by omega) (by omega), or_join _ _ 24 (by omega)]
  rw [show x0.toNat * 2 ^ 24 + x1.toNat * 2 ^ 16 = (x0.toNat * 2 ^ 8 + x1.toNat) * 2 ^ 16 by omega, u32_or_nat _ _ (by omega) (by omega), or_join _ _ 16 (by omega)]
  rw [show (x0.toNat * 2 ^ 8 + x1.toNat) * 2 ^ 16 + x2.toNat * 2 ^ 8 = ((x0.toNat * 2 ^ 8 + x1.toNat) * 2 ^ 8 + x2.toNat) * 2 ^ 8 by omega, u32_or_nat _ _ (by omega) (by omega), or_join _ _ 8 (by omega)]
  rw [UInt32.toNat_ofNat', Nat.mod_eq_of_lt (by omega)]

set_option maxHeartbeats 1000000 in
set_option maxRecDepth 4000 in
theorem spread_any (g off c : Nat) (b : List UInt8) (w : World) (hb : b.length = 64) (hr : Reads w w.heap.size 1 (some ⟨g, off, none⟩) 64 (bL b)) :
    Calls Try.prog 25 #[.slice (some ⟨g, off, none⟩) 64 c] w fun e w' => e = .returned (.agg (uA (sched b 64))) ∧ Below w.heap.size w w' := by
  have HB := Lib.hid hb
  clear hb
  go_enter Try.func25, Try.ntmps25
  go_wp2_with (first
    | ((with_reducible refine at_dst 2 ?_); refine wpList_alB rfl 54 rfl _ zero54 ?_; intro w1 hb1 hg1)
    | ((with_reducible refine at_dst 3 ?_); refine wpList_alB rfl 54 rfl _ zero54 ?_; intro w2 hb2 hg2))
  have hB2 := bN (bN (Below.refl _ w) hg1) hg2
  have hs1 : w.heap.size < w1.heap.size := hb1.lt
  have hb1' := hb1.grown hg2 (by simp)
  go_loopw [4] (fun v4 wr => ∃ k : Nat, k ≤ 16 ∧ v4 = .int .i64 k ∧ Blk wr w.heap.size 54 (uA z64) ∧ Blk wr w1.heap.size 54 (uA (sched b k ++ z64.drop k)) ∧ Below w.heap.size w wr) (fun v4 _ => 16 - (intOf v4).toNat)
  case atStart => exact ⟨0, by omega, rfl, hb1', hb2, hB2⟩
  case round =>
    obtain ⟨k, hk, rfl, hz, ht, hB⟩ := hrel
    by_cases hlt : k < 16
    · have get : ∀ j, j < 64 → ∃ x, b[j]? = some x := fun j h => ⟨b[j]'(by rw [HB.out]; exact h), List.getElem?_eq_getElem _⟩
      obtain ⟨x0, h0⟩ := get (4 * k) (by omega)
      obtain ⟨x1, h1⟩ := get (4 * k + 1) (by omega)
      obtain ⟨x2, h2⟩ := get (4 * k + 2) (by omega)
      obtain ⟨x3, h3⟩ := get (4 * k + 3) (by omega)
      clear get
      have hrr := hr.below hB
      have c0 := reads_cell hrr h0 g off rfl
      have c1 := reads_cell hrr h1 g off rfl
      have c2 := reads_cell hrr h2 g off rfl
      have c3 := reads_cell hrr h3 g off rfl
      have b0 := toNat_le x0
      have b1 := toNat_le x1
      have b2 := toNat_le x2
      have b3 := toNat_le x3
      have w0 : IntKind.i64.wrap (4 * (k : Int)) = 4 * (k : Int) := IntWalk.i64_in _ (by omega)
      have w1' : IntKind.i64.wrap (4 * (k : Int) + 1) = 4 * (k : Int) + 1 := IntWalk.i64_in _ (by omega)
      have w2' : IntKind.i64.wrap (4 * (k : Int) + 2) = 4 * (k : Int) + 2 := IntWalk.i64_in _ (by omega)
      have w3 : IntKind.i64.wrap (4 * (k : Int) + 3) = 4 * (k : Int) + 3 := IntWalk.i64_in _ (by omega)
      have n0 : (4 * (k : Int)).toNat = 4 * k := by omega
      have n1 : (4 * (k : Int) + 1).toNat = 4 * k + 1 := by omega
      have n2 : (4 * (k : Int) + 2).toNat = 4 * k + 2 := by omega
      have n3 : (4 * (k : Int) + 3).toNat = 4 * k + 3 := by omega
      have p0 : 0 ≤ 4 * (k : Int) := by omega
      have p1 : 0 ≤ 4 * (k : Int) + 1 := by omega
      have p2 : 0 ≤ 4 * (k : Int) + 2 := by omega
      have p3 : 0 ≤ 4 * (k : Int) + 3 := by omega
      have q0 : 4 * (k : Int) < 64 := by omega
      have q1 : 4 * (k : Int) + 1 < 64 := by omega
      have q2 : 4 * (k : Int) + 2 < 64 := by omega
      have q3 : 4 * (k : Int) + 3 < 64 := by omega
      have hk64 : (k : Int) < 64 := by omega
      obtain ⟨u, hu⟩ : ∃ v, (uA (sched b k ++ z64.drop k))[k]? = some v := ⟨_, Array.getElem?_eq_getElem (by simp [length_sched, z64]; omega)⟩
      have hcell := (ht.cell k).trans hu
      have hfr := ht.frozen k
      have hset := ht.drew.set_ k (.int .u32 (N (word b k)))
      have hwb : Hid (UInt32.ofNat (((x0.toNat * 256 + x1.toNat) * 256 + x2.toNat) * 256 + x3.toNat) = word b k) := by
        show _ = _
        simp only [word, List.getD_eq_getElem?_getD, h0, h1, h2, h3, Option.getD_some]
      have hwd := wordO x0 x1 x2 x3
      rw [hwb.out] at hwd
      change _ = N (word b k) at hwd
      clear h0 h1 h2 h3
      go_wp2_with fail
      go_still_tail 35, (by kernel_rfl)
      change wpList _ _ _ _ _ wr.drew
      go_wp2
      have hst : (sched b k ++ z64.drop k).set k (word b k) = sched b (k + 1) ++ z64.drop (k + 1) := by
        rw [sched_set b k (by omega) (word b k)]
        simp [sched, hlt]
      rw [uA_set, hst] at hset
      go_roundw
      case rel => exact ⟨k + 1, by omega, by go_num, hz.far (by simp; omega) _, hset, (hB.setCell (by simp; omega) _).drew⟩
      case measure => simp [intOf]; omega
    · obtain rfl : k = 16 := by omega
      go_wp2_with fail
      go_loopw [5] (fun v5 wr => ∃ k : Nat, 16 ≤ k ∧ k ≤ 64 ∧ v5 = .int .i64 k ∧ Blk wr w.heap.size 54 (uA z64) ∧ Blk wr w1.heap.size 54 (uA (sched b k ++ z64.drop k)) ∧ Below w.heap.size w wr) (fun v5 _ => 64 - (intOf v5).toNat)
      case atStart => exact ⟨16, by omega, by omega, rfl, hz, ht, hB⟩
      clear hz ht hB
      case round =>
        obtain ⟨k, hk1, hk2, rfl, hz, ht, hB⟩ := hrel
        by_cases hlt : k < 64
        · have get : ∀ j, j < k → ∃ x, (sched b k)[j]? = some x := fun j h => ⟨(sched b k)[j]'(by rw [length_sched]; exact h), List.getElem?_eq_getElem _⟩
          have cellAt : ∀ j x, j < k → (sched b k)[j]? = some x → wr.cell? ⟨w1.heap.size, j, none⟩ = some (.int .u32 (N x)) := fun j x h1 h2 => by
            rw [ht.cell]
            refine uA_get _ j x ?_
            rw [List.getElem?_append_left (by rw [length_sched]; exact h1), h2]
          obtain ⟨x15, h15⟩ := get (k - 15) (by omega)
          obtain ⟨x2, h2⟩ := get (k - 2) (by omega)
          obtain ⟨x16, h16⟩ := get (k - 16) (by omega)
          obtain ⟨x7, h7⟩ := get (k - 7) (by omega)
          have c15 := cellAt _ _ (by omega) h15
          have c2 := cellAt _ _ (by omega) h2
          have c16 := cellAt _ _ (by omega) h16
          have c7 := cellAt _ _ (by omega) h7
          clear get cellAt
          have hnew : Hid (sched b (k + 1) = sched b k ++ [x16 + sig0 x15 + x7 + sig1 x2]) := by
            show _ = _
            simp only [sched, List.getD_eq_getElem?_getD, h15, h2, h16, h7, Option.getD_some]
            rw [if_neg (by omega)]
          clear h15 h2 h16 h7
          have i15 : IntKind.i64.wrap ((k : Int) - 15) = (k : Int) - 15 := IntWalk.i64_in _ (by omega)
          have i2 : IntKind.i64.wrap ((k : Int) - 2) = (k : Int) - 2 := IntWalk.i64_in _ (by omega)
          have i16 : IntKind.i64.wrap ((k : Int) - 16) = (k : Int) - 16 := IntWalk.i64_in _ (by omega)
          have i7 : IntKind.i64.wrap ((k : Int) - 7) = (k : Int) - 7 := IntWalk.i64_in _ (by omega)
          have n15 : ((k : Int) - 15).toNat = k - 15 := by omega
          have n2 : ((k : Int) - 2).toNat = k - 2 := by omega
          have n16 : ((k : Int) - 16).toNat = k - 16 := by omega
          have n7 : ((k : Int) - 7).toNat = k - 7 := by omega
          have p15 : 0 ≤ (k : Int) - 15 := by omega
          have p2 : 0 ≤ (k : Int) - 2 := by omega
          have p16 : 0 ≤ (k : Int) - 16 := by omega
          have p7 : 0 ≤ (k : Int) - 7 := by omega
          have q15 : (k : Int) - 15 < 64 := by omega
          have q2 : (k : Int) - 2 < 64 := by omega
          have q16 : (k : Int) - 16 < 64 := by omega
          have q7 : (k : Int) - 7 < 64 := by omega
          have r16 : (16 : Int) ≤ (k : Int) := by omega
          have r7 : (7 : Int) ≤ (k : Int) := by omega
          have hk64 : (k : Int) < 64 := by omega
          obtain ⟨u, hu⟩ : ∃ v, (uA (sched b k ++ z64.drop k))[k]? = some v := ⟨_, Array.getElem?_eq_getElem (by simp [length_sched, z64]; omega)⟩
          have hcell := (ht.cell k).trans hu
          have hfr := ht.frozen k
          go_wp2_with fail
          go_quiet (fail)
          go_wp2_with fail
          refine (rotl7 x15 _).mono ?_
          rintro e w' ⟨rfl, rfl⟩
          go_wp2_with fail
          refine (rotl18 x15 _).mono ?_
          rintro e w' ⟨rfl, rfl⟩
          go_wp2_with fail
          refine (rotl17 x2 _).mono ?_
          rintro e w' ⟨rfl, rfl⟩
          go_wp2_with fail
          refine (rotl19 x2 _).mono ?_
          rintro e w' ⟨rfl, rfl⟩
          go_wp2_with fail
          have hzq := hz.drewN nq
          have htq := ht.drewN nq
          have hBq := below_drewN hB nq
          have c16q : (wr.drewN nq).cell? ⟨w1.heap.size, k - 16, none⟩ = some (.int .u32 (N x16)) := c16
          have c7q : (wr.drewN nq).cell? ⟨w1.heap.size, k - 7, none⟩ = some (.int .u32 (N x7)) := c7
          have hcq : (wr.drewN nq).cell? ⟨w1.heap.size, k, none⟩ = some u := hcell
          have hfq : (wr.drewN nq).frozen? ⟨w1.heap.size, k, none⟩ = false := hfr
          generalize wr.drewN nq = wq at *
          clear hz ht hB c16 c7 c15 c2 hcell hfr
          have hset := htq.drew.set_ k (.int .u32 (N (x16 + sig0 x15 + x7 + sig1 x2)))
          have g0 : rotr x15 7 ^^^ rotr x15 18 ^^^ x15 >>> 3 = sig0 x15 := rfl
          have g1 : rotr x2 17 ^^^ rotr x2 19 ^^^ x2 >>> 10 = sig1 x2 := rfl
          rw [g0, g1]
          clear g0 g1
          go_still_tail 15, (by kernel_rfl)
          change wpList _ _ _ _ _ wq.drew
          go_wp2
          have hst : (sched b k ++ z64.drop k).set k (x16 + sig0 x15 + x7 + sig1 x2) = sched b (k + 1) ++ z64.drop (k + 1) := by
            rw [sched_set b k hlt, hnew.out]
          rw [uA_set, hst] at hset
          refine ⟨?_, ?measure2⟩
          repeat apply Exists.intro
          refine ⟨?rel2, rfl⟩
          case rel2 => exact ⟨k + 1, by omega, by omega, by go_num, hzq.far (by simp; omega) _, hset, (hBq.setCell (by simp; omega) _).drew⟩
          case measure2 => simp [intOf]; omega
        · obtain rfl : k = 64 := by omega
          have e64 : sched b 64 ++ z64.drop 64 = sched b 64 := List.append_nil _
          rw [e64] at ht
          have hSl : (sched b 64).length = 64 := length_sched b 64
          clear e64
          generalize hS : sched b 64 = S at *
          have HS := Lib.hid hS
          clear hS
          have hi4 : (Try.prog.info? 54).map (·.size) = some (uA S).size := by rw [size_uA, hSl]; exact size54
          have hl4 : (uA S).size = (uA z64).size := by rw [size_uA, hSl]; rfl
          have HI4 := Lib.hid hi4
          have HL4 := Lib.hid hl4
          clear hSl hi4 hl4
          go_wp2_with (first
            | ((with_reducible refine at_dst 92 ?_); refine wpList_load_row rfl 54 _ rfl w1.heap.size rfl 54 _ (0,0) _ ht Try.underlying54 rfl HI4.out ?_)
            | ((with_reducible refine at_store 92 ?_); refine wpList_stW rfl 54 _ _ rfl w.heap.size rfl (uA S) rfl 54 (uA z64) hz HI4.out HL4.out (uL_one _) ?_; intro w4 hb4 hg4))
          refine bodyPost_ret (resB rfl _ rfl hb4 _ Try.underlying54 rfl HI4.out) rfl ⟨by rw [HS.out], ?_⟩
          exact hB.grown hg4 hB.size (by simp)
