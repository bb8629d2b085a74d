/-
  The law: works, laid, lay.
-/
import Derived.Test.YtcbnhmcfdpcbhaaC
namespace Go.Proofs.Ytcbnhmcfdpcbhaa
open Go.RowKit Zk Zx
set_option linter.unusedVariables false
set_option linter.unusedSimpArgs false

theorem wt_fresh {w w' : World} {b : Nat} (h : w.heap.size ≤ b) (hw : (wt b none 0 0 []).holds w') : ∀ i, (wt b none 0 0 []).dom i → w.heap.size ≤ i ∧ i < w'.heap.size := fun i hi => by
  refine ⟨?_, wt_lt hw i hi⟩
  rcases hi with hi | hi
  · have hi' : i = b := hi
    omega
  · cases hi
theorem vr300 : vr 300 = [172, 2] := by
  rw [vr_big 300 (by omega), vr_low _ (by omega)]
  rfl
theorem vr2 : vr 2 = [2] := vr_low 2 (by omega)
theorem vr2s : vr (ByteArray.size { data := #[97, 98] }) = [2] := vr2
theorem bytes_lit (l : List UInt8) : (⟨l.toArray⟩ : ByteArray).data.toList = l := rfl


set_option maxRecDepth 100000 in
theorem works  (w0 : World)  :
    Calls Try.prog 14 #[] w0 fun e w' => ∃ u, e = .returned u ∧ Like w0 w' ∧ u = .bool true := by
  refine enter1 (env := []) [] Try.func14 rfl Try.ntmps14 rfl rfl ?_
  have S0 := St.start w0 noM
  refine T_seq fun K1 hK1 => ?_
  refine T_region ?_
  refine L_y (y_assign rfl) rfl ?_
  refine L_nil ?_
  refine hK1 _ _ ?_
  refine T_seq fun K2 hK2 => ?_
  refine T_region ?_
  refine L_o (o_call Try.func8 rfl rfl (wnew w0) rfl rfl ?_)
  rintro e1 w1 ⟨v1, rfl, l1, b1, rfl, hb1, hh1⟩
  refine ⟨_, rfl, ?_⟩
  have S1 := S0.new l1 _ hh1 (wt_fresh hb1 hh1)
  refine L_y (y_assign rfl) rfl ?_
  refine L_nil ?_
  refine hK2 _ _ ?_
  refine T_seq fun K3 hK3 => ?_
  refine T_region ?_
  refine L_y (y_move rfl) rfl ?_
  refine L_o (o_call Try.func20 rfl rfl (wvar _ _ _ _ _ 300 w1 (S1.get 0 rfl) (by omega) (by simp)) rfl rfl ?_)
  rintro e2 w2 ⟨v2, rfl, ⟨A2, n2, c2, T2⟩⟩
  refine ⟨_, rfl, ?_⟩
  have S2 := S1.turn 0 rfl T2
  refine L_nil ?_
  refine hK3 _ _ ?_
  refine T_seq fun K4 hK4 => ?_
  refine T_region ?_
  refine L_y (y_move rfl) rfl ?_
  refine L_o (o_call Try.func21 rfl rfl (wtext _ _ _ _ _ _ w2 (S2.get 0 rfl) (by have := vr_len10 300 (by omega); simp [ByteArray.size]; omega)) rfl rfl ?_)
  rintro e3 w3 ⟨v3, rfl, ⟨A3, n3, c3, T3⟩⟩
  refine ⟨_, rfl, ?_⟩
  have S3 := S2.turn 0 rfl T3
  refine L_nil ?_
  refine hK4 _ _ ?_
  refine T_seq fun K5 hK5 => ?_
  refine T_region ?_
  refine L_y (y_move rfl) rfl ?_
  refine L_o (o_call Try.func11 rfl rfl (wlen _ _ _ _ _ w3 (S3.get 0 rfl)) rfl rfl ?_)
  rintro e4 w4 ⟨v4, rfl, l4, rfl⟩
  refine ⟨_, rfl, ?_⟩
  have S4 := S3.like l4
  refine L_y (y_eql rfl rfl) rfl ?_
  refine L_y (y_move rfl) rfl ?_
  refine L_split 10 rfl (fun h10 => ?_) (fun h10 => ?_)
  ·
    refine L_gyes rfl rfl ?_
    refine L_y (y_move rfl) rfl ?_
    refine L_gyes rfl rfl ?_
    refine L_o (o_call Try.func13 rfl rfl (wbytes _ _ _ _ _ w4 (S4.get 0 rfl) (by have := vr_len10 300 (by omega); have := vr_len10 2 (by omega); simp [ByteArray.size]; omega)) rfl rfl ?_)
    rintro e6 w6 ⟨v6, rfl, l6, A6, m6, c6, rfl, O6⟩
    refine ⟨_, rfl, ?_⟩
    have S6 := S4.adopt l6 O6
    refine L_gyes rfl rfl ?_
    refine L_y (y_bstr Try.underlying25 Try.underlying5 Try.underlying9 rfl (S6.row 1 rfl)) rfl ?_
    refine L_gyes rfl rfl ?_
    refine L_y (y_seql rfl rfl) rfl ?_
    refine L_y ((by first | exact y_pickT rfl rfl | exact y_pickF rfl rfl)) rfl ?_
    refine L_y (y_assign rfl) rfl ?_
    refine L_nil ?_
    refine hK5 _ _ ?_
    refine T_ret ?_
    repeat (first | with_reducible refine up_then ?_ | with_reducible refine up_in ?_)
    refine ret1 rfl rfl ?_
    first | exact ⟨_, rfl, S6.like0, by rw [vr300, vr2s]; rfl⟩ | (have hl := wt_len (S6.get 0 rfl); rw [vr300, vr2s] at hl; exact absurd (by simp at hl; omega) h10)
  ·
    refine L_gno rfl rfl rfl ?_
    refine L_gno rfl rfl rfl ?_
    refine L_gno rfl rfl rfl ?_
    refine L_gno rfl rfl rfl ?_
    refine L_y ((by first | exact y_pickT rfl rfl | exact y_pickF rfl rfl)) rfl ?_
    refine L_y (y_assign rfl) rfl ?_
    refine L_nil ?_
    refine hK5 _ _ ?_
    refine T_ret ?_
    repeat (first | with_reducible refine up_then ?_ | with_reducible refine up_in ?_)
    refine ret1 rfl rfl ?_
    first | exact ⟨_, rfl, S4.like0, by rw [vr300, vr2s]; rfl⟩ | (have hl := wt_len (S4.get 0 rfl); rw [vr300, vr2s] at hl; exact absurd (by simp at hl; omega) h10)


/-- What a call lays. -/
def laidL (d : Int) (x : Nat) (s : ByteArray) : List UInt8 :=
  if d = 0 then [UInt8.ofNat x] else if d = 1 then tl (x % 4294967296) 4 else if d = 2 then tl x 8 else if d = 3 then vr x else if d = 4 then vr s.size ++ s.data.toList else s.data.toList


set_option maxRecDepth 100000 in
theorem laid (d : Int) (x : Nat) (s : ByteArray) (w0 : World) (hx : x ≤ 18446744073709551615) (hs : s.size ≤ 70368744170000) :
    Calls Try.prog 10 #[.agg #[.int .i64 d, .int .u64 (x : Int), .string s]] w0 fun e w' => ∃ u, e = .returned u ∧ Like w0 w' ∧ ∃ A m c, u = .slice A m c ∧ Rs w' 1 A m c (bL (laidL d x s)) := by
  refine enter1 (env := [(0, .agg #[.int .i64 d, .int .u64 (x : Int), .string s])]) [.agg #[.int .i64 d, .int .u64 (x : Int), .string s]] Try.func10 rfl Try.ntmps10 rfl rfl ?_
  have S0 := St.start w0 noM
  refine T_seq fun K1 hK1 => ?_
  refine T_region ?_
  refine L_o (o_box rfl S0 rfl fun b1 w1 hb1 S1 => ?_)
  refine L_y (y_assign rfl) rfl ?_
  refine L_nil ?_
  refine hK1 _ _ ?_
  refine T_seq fun K2 hK2 => ?_
  refine T_seq fun K3 hK3 => ?_
  refine T_region ?_
  refine L_y (y_fieldA 0 Try.underlying29 rfl sz3 rfl rfl rfl) rfl ?_
  refine L_y (y_ldc Try.underlying3 rfl rfl (((S1.blk 0 rfl).cell _).trans (by rfl))) rfl ?_
  refine L_nil ?_
  refine hK3 _ _ ?_
  refine T_block ?_
  refine T_seq fun K4 hK4 => ?_
  refine T_region ?_
  refine L_y (y_eql rfl rfl) rfl ?_
  refine L_y (y_assign rfl) rfl ?_
  refine L_nil ?_
  refine hK4 _ _ ?_
  refine T_cond rfl (fun h5 => ?_) (fun h5 => ?_)
  ·
    refine T_seq fun K5 hK5 => ?_
    refine T_region ?_
    refine L_y (y_fieldA 1 Try.underlying29 rfl sz27 rfl rfl rfl) rfl ?_
    refine L_y (y_ldc Try.underlying27 rfl rfl (((S1.blk 0 rfl).cell _).trans (by rfl))) rfl ?_
    refine L_y (y_conv is27 Try.underlying5 rfl (w8 _)) rfl ?_
    refine L_o (o_bsl [_] te25 zz5 S1 rfl rfl rfl rfl rfl rfl rfl rfl fun b2 w2 S2 => ?_)
    refine L_y (y_assign rfl) rfl ?_
    refine L_nil ?_
    refine hK5 _ _ ?_
    refine T_ret ?_
    repeat (first | with_reducible refine up_then ?_ | with_reducible refine up_in ?_)
    refine ret1 rfl rfl ?_
    exact ⟨_, rfl, S2.like0, _, _, _, rfl, by first | (have h := S2.row 1 rfl; simp only [laidL, *, if_true, if_false]; exact h) | (have h := S2.fix 1 rfl; unfold laidL; (repeat rw [if_neg (by assumption)]); exact h) | (have h := S2.row 1 rfl; have e8 : Value.int .u8 ((x % 256 : Nat) : Int) = bV (UInt8.ofNat x) := congrArg (Value.int _) (by rw [UInt8.toNat_ofNat']; omega); rw [e8] at h; simp only [laidL, *, if_true]; exact h)⟩
  ·
    refine T_seq fun K6 hK6 => ?_
    refine T_region ?_
    refine L_y (y_eql rfl rfl) rfl ?_
    refine L_y (y_assign rfl) rfl ?_
    refine L_nil ?_
    refine hK6 _ _ ?_
    refine T_cond rfl (fun h11 => ?_) (fun h11 => ?_)
    ·
      refine T_seq fun K7 hK7 => ?_
      refine T_region ?_
      refine L_y (y_fieldA 1 Try.underlying29 rfl sz27 rfl rfl rfl) rfl ?_
      refine L_y (y_ldc Try.underlying27 rfl rfl (((S1.blk 0 rfl).cell _).trans (by rfl))) rfl ?_
      refine L_y (y_conv is27 Try.underlying54 rfl (w32 _)) rfl ?_
      refine L_y (y_conv is54 Try.underlying27 rfl (u64w (by omega))) rfl ?_
      refine L_o (o_call Try.func33 rfl rfl (refbig (x % 4294967296) 4 w1 (by omega) (by omega)) rfl rfl ?_)
      rintro e3 w3 ⟨v3, rfl, l3, A3, m3, c3, rfl, O3⟩
      refine ⟨_, rfl, ?_⟩
      have S3 := S1.adopt l3 O3
      refine L_y (y_assign rfl) rfl ?_
      refine L_nil ?_
      refine hK7 _ _ ?_
      refine T_ret ?_
      repeat (first | with_reducible refine up_then ?_ | with_reducible refine up_in ?_)
      refine ret1 rfl rfl ?_
      exact ⟨_, rfl, S3.like0, _, _, _, rfl, by first | (have h := S3.row 1 rfl; simp only [laidL, *, if_true, if_false]; exact h) | (have h := S3.fix 1 rfl; unfold laidL; (repeat rw [if_neg (by assumption)]); exact h) | (have h := S3.row 1 rfl; have e8 : Value.int .u8 ((x % 256 : Nat) : Int) = bV (UInt8.ofNat x) := congrArg (Value.int _) (by rw [UInt8.toNat_ofNat']; omega); rw [e8] at h; simp only [laidL, *, if_true]; exact h)⟩
    ·
      refine T_seq fun K8 hK8 => ?_
      refine T_region ?_
      refine L_y (y_eql rfl rfl) rfl ?_
      refine L_y (y_assign rfl) rfl ?_
      refine L_nil ?_
      refine hK8 _ _ ?_
      refine T_cond rfl (fun h18 => ?_) (fun h18 => ?_)
      ·
        refine T_seq fun K9 hK9 => ?_
        refine T_region ?_
        refine L_y (y_fieldA 1 Try.underlying29 rfl sz27 rfl rfl rfl) rfl ?_
        refine L_y (y_ldc Try.underlying27 rfl rfl (((S1.blk 0 rfl).cell _).trans (by rfl))) rfl ?_
        refine L_o (o_call Try.func33 rfl rfl (refbig x 8 w1 (by omega) (by omega)) rfl rfl ?_)
        rintro e4 w4 ⟨v4, rfl, l4, A4, m4, c4, rfl, O4⟩
        refine ⟨_, rfl, ?_⟩
        have S4 := S1.adopt l4 O4
        refine L_y (y_assign rfl) rfl ?_
        refine L_nil ?_
        refine hK9 _ _ ?_
        refine T_ret ?_
        repeat (first | with_reducible refine up_then ?_ | with_reducible refine up_in ?_)
        refine ret1 rfl rfl ?_
        exact ⟨_, rfl, S4.like0, _, _, _, rfl, by first | (have h := S4.row 1 rfl; simp only [laidL, *, if_true, if_false]; exact h) | (have h := S4.fix 1 rfl; unfold laidL; (repeat rw [if_neg (by assumption)]); exact h) | (have h := S4.row 1 rfl; have e8 : Value.int .u8 ((x % 256 : Nat) : Int) = bV (UInt8.ofNat x) := congrArg (Value.int _) (by rw [UInt8.toNat_ofNat']; omega); rw [e8] at h; simp only [laidL, *, if_true]; exact h)⟩
      ·
        refine T_seq fun K10 hK10 => ?_
        refine T_region ?_
        refine L_y (y_eql rfl rfl) rfl ?_
        refine L_y (y_assign rfl) rfl ?_
        refine L_nil ?_
        refine hK10 _ _ ?_
        refine T_cond rfl (fun h23 => ?_) (fun h23 => ?_)
        ·
          refine T_seq fun K11 hK11 => ?_
          refine T_region ?_
          refine L_y (y_fieldA 1 Try.underlying29 rfl sz27 rfl rfl rfl) rfl ?_
          refine L_y (y_ldc Try.underlying27 rfl rfl (((S1.blk 0 rfl).cell _).trans (by rfl))) rfl ?_
          refine L_o (o_call Try.func34 rfl rfl (refvar x w1 (by omega)) rfl rfl ?_)
          rintro e5 w5 ⟨v5, rfl, l5, A5, m5, c5, rfl, O5⟩
          refine ⟨_, rfl, ?_⟩
          have S5 := S1.adopt l5 O5
          refine L_y (y_assign rfl) rfl ?_
          refine L_nil ?_
          refine hK11 _ _ ?_
          refine T_ret ?_
          repeat (first | with_reducible refine up_then ?_ | with_reducible refine up_in ?_)
          refine ret1 rfl rfl ?_
          exact ⟨_, rfl, S5.like0, _, _, _, rfl, by first | (have h := S5.row 1 rfl; simp only [laidL, *, if_true, if_false]; exact h) | (have h := S5.fix 1 rfl; unfold laidL; (repeat rw [if_neg (by assumption)]); exact h) | (have h := S5.row 1 rfl; have e8 : Value.int .u8 ((x % 256 : Nat) : Int) = bV (UInt8.ofNat x) := congrArg (Value.int _) (by rw [UInt8.toNat_ofNat']; omega); rw [e8] at h; simp only [laidL, *, if_true]; exact h)⟩
        ·
          refine T_seq fun K12 hK12 => ?_
          refine T_region ?_
          refine L_y (y_eql rfl rfl) rfl ?_
          refine L_y (y_assign rfl) rfl ?_
          refine L_nil ?_
          refine hK12 _ _ ?_
          refine T_cond rfl (fun h28 => ?_) (fun h28 => ?_)
          ·
            refine T_seq fun K13 hK13 => ?_
            refine T_region ?_
            refine L_y (y_fieldA 2 Try.underlying29 rfl sz9 rfl rfl rfl) rfl ?_
            refine L_y (y_ldc Try.underlying9 rfl rfl (((S1.blk 0 rfl).cell _).trans (by rfl))) rfl ?_
            refine L_o (o_call Try.func35 rfl rfl (reftext s w1 hs) rfl rfl ?_)
            rintro e6 w6 ⟨v6, rfl, l6, A6, m6, c6, rfl, O6⟩
            refine ⟨_, rfl, ?_⟩
            have S6 := S1.adopt l6 O6
            refine L_y (y_assign rfl) rfl ?_
            refine L_nil ?_
            refine hK13 _ _ ?_
            refine T_ret ?_
            repeat (first | with_reducible refine up_then ?_ | with_reducible refine up_in ?_)
            refine ret1 rfl rfl ?_
            exact ⟨_, rfl, S6.like0, _, _, _, rfl, by first | (have h := S6.row 1 rfl; simp only [laidL, *, if_true, if_false]; exact h) | (have h := S6.fix 1 rfl; unfold laidL; (repeat rw [if_neg (by assumption)]); exact h) | (have h := S6.row 1 rfl; have e8 : Value.int .u8 ((x % 256 : Nat) : Int) = bV (UInt8.ofNat x) := congrArg (Value.int _) (by rw [UInt8.toNat_ofNat']; omega); rw [e8] at h; simp only [laidL, *, if_true]; exact h)⟩
          ·
            refine T_skip ?_
            refine hK2 _ _ ?_
            refine T_seq fun K14 hK14 => ?_
            refine T_region ?_
            refine L_y (y_fieldA 2 Try.underlying29 rfl sz9 rfl rfl rfl) rfl ?_
            refine L_y (y_ldc Try.underlying9 rfl rfl (((S1.blk 0 rfl).cell _).trans (by rfl))) rfl ?_
            refine L_o (o_sbytes Try.underlying9 Try.underlying25 Try.underlying5 rfl (by omega) S1 rfl fun b7 c7 w7 l7 S7 => ?_)
            refine L_y (y_assign rfl) rfl ?_
            refine L_nil ?_
            refine hK14 _ _ ?_
            refine T_ret ?_
            repeat (first | with_reducible refine up_then ?_ | with_reducible refine up_in ?_)
            refine ret1 rfl rfl ?_
            exact ⟨_, rfl, S7.like0, _, _, _, rfl, by first | (have h := S7.row 1 rfl; simp only [laidL, *, if_true, if_false]; exact h) | (have h := S7.fix 1 rfl; unfold laidL; (repeat rw [if_neg (by assumption)]); exact h) | (have h := S7.row 1 rfl; have e8 : Value.int .u8 ((x % 256 : Nat) : Int) = bV (UInt8.ofNat x) := congrArg (Value.int _) (by rw [UInt8.toNat_ofNat']; omega); rw [e8] at h; simp only [laidL, *, if_true]; exact h)⟩
end Go.Proofs.Ytcbnhmcfdpcbhaa
