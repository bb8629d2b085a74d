/-
  The document: Big, Var, Text, Same.
-/
import Derived.Test.YtcbnhmcfdpcbhaaB
namespace Go.Proofs.Ytcbnhmcfdpcbhaa
open Go.RowKit Zk Zx
set_option linter.unusedVariables false
set_option linter.unusedSimpArgs false

theorem byt_inj (l k : List UInt8) : decide ((⟨l.toArray⟩ : ByteArray) = ⟨k.toArray⟩) = decide (l = k) := by
  by_cases h : l = k
  · subst h; simp
  · have : (⟨l.toArray⟩ : ByteArray) ≠ ⟨k.toArray⟩ := fun e => h (by simpa using e)
    simp [h]


set_option maxRecDepth 100000 in
theorem refvar (x : Nat) (w0 : World) (hx : x ≤ 18446744073709551615) :
    Calls Try.prog 34 #[.int .u64 (x : Int)] w0 fun e w' => ∃ u, e = .returned u ∧ Like w0 w' ∧ ∃ A m c, u = .slice A m c ∧ w'.ownsRow w0.heap.size 5 1 (.slice A m c) m (bL (vr x)) := by
  refine enter1 (env := [(0, .int .u64 (x : Int))]) [.int .u64 (x : Int)] Try.func34 rfl Try.ntmps34 rfl rfl ?_
  have S0 := St.start w0 noM
  refine T_seq fun K1 hK1 => ?_
  refine T_region ?_
  refine L_y (y_assign rfl) rfl ?_
  refine L_nil ?_
  refine hK1 _ _ ?_
  refine T_seq fun K2 hK2 => ?_
  refine T_region ?_
  have S1 := S0.nilrow 5 1
  refine L_y (y_assign rfl) rfl ?_
  refine L_nil ?_
  refine hK2 _ _ ?_
  refine T_seq fun K3 hK3 => ?_
  refine T_block ?_
  refine T_loop4 [] (fun (y : Nat) (m : List UInt8) (A : Option Addr) (c : Nat) => [(0, .int .u64 (y : Int)), (3, .slice A m.length c)]) (fun (y : Nat) (m : List UInt8) (A : Option Addr) (c : Nat) => y) (fun (y : Nat) (m : List UInt8) (A : Option Addr) (c : Nat) (w : World) => (m ++ vr y = vr x ∧ y ≤ x ∧ m.length + (vr y).length ≤ 10) ∧ St w0 noM [row 5 1 A m.length c (bL m)] w) x [] none 0 (Sub.cons rfl (by first | rfl | exact congrArg (Value.int _) (by omega)) (Sub.cons rfl (by first | rfl | exact congrArg (Value.int _) (by omega)) (Sub.nil _))) (Sub.nil _) ?_ ?_
  ·
    have := vr_len10 x hx
    exact ⟨⟨rfl, Nat.le_refl _, by simpa using this⟩, S1⟩
  ·
    intro y m A c w2 hrel
    obtain ⟨⟨hm, hy, hml⟩, S2⟩ := hrel
    have hg : m.length ≤ 10 := by omega
    refine T_seq fun K4 hK4 => ?_
    refine T_seq fun K5 hK5 => ?_
    refine T_region ?_
    refine L_y (y_move rfl) rfl ?_
    refine L_y (y_geq rfl rfl) rfl ?_
    refine L_nil ?_
    refine hK5 _ _ ?_
    refine T_cond rfl (fun h5 => ?_) (fun h5 => ?_)
    ·
      refine T_skip ?_
      refine hK4 _ _ ?_
      refine T_block ?_
      refine T_seq fun K6 hK6 => ?_
      refine T_region ?_
      refine L_y (y_move rfl) rfl ?_
      refine L_y (y_move rfl) rfl ?_
      refine L_y (y_rem rfl rfl (by omega) (remI (by omega))) rfl ?_
      refine L_y (y_add rfl rfl (u64w (by omega))) rfl ?_
      refine L_y (y_conv is27 Try.underlying5 rfl (IntKind.wrap_u8 _)) rfl ?_
      refine L_o (o_bsl [_] te25 zz5 S2 rfl rfl rfl rfl rfl rfl rfl rfl fun b3 w3 S3 => ?_)
      refine L_o (o_app te25 S3 0 rfl rfl rfl (by first | exact S3.row 0 rfl | exact S3.row 1 rfl) (by first | exact bL_one _ | exact iL_one _ | (intro u hu; simp at hu; subst hu; rfl) | (simp; done) | (simp [Value.oneCell']; done)) rfl (by omega) (by omega) fun A4 c4 w4 S4 => ?_)
      have S4d := S4.drop (rs' := [_]) (.cons_cons _ (.cons _ (.refl _)))
      refine L_y (y_assign rfl) rfl ?_
      refine L_nil ?_
      refine hK6 _ _ ?_
      refine T_region ?_
      refine L_y (y_move rfl) rfl ?_
      refine L_y (y_quo rfl rfl (by omega) (quoU (by omega) (by omega))) rfl ?_
      refine L_y (y_assign rfl) rfl ?_
      refine L_nil ?_
      have S9 := S4d.rowc 0 rfl (n' := (m ++ [UInt8.ofNat (y % 128 + 128)]).length) (xs' := bL (m ++ [UInt8.ofNat (y % 128 + 128)])) (by simp) (by rw [bL_app]; exact congrArg (fun v => bL m ++ [v]) (congrArg (Value.int _) (by rw [UInt8.toNat_ofNat']; first | omega | (rw [IntKind.wrap_u8]; omega))))
      refine ⟨y / 128, m ++ [UInt8.ofNat (y % 128 + 128)], _, _, by omega, ⟨⟨by rw [← hm, vr_big y (by omega)]; simp, by omega, by rw [vr_big y (by omega)] at hml; simp at hml ⊢; omega⟩, S9⟩, ?_⟩
      exact (Sub.cons rfl (congrArg (Value.int _) (by omega)) (Sub.cons rfl (by rw [List.length_append]; rfl) (Sub.nil _)))
    ·
      refine T_exit ?_
      refine hK3 _ _ ?_
      refine T_seq fun K7 hK7 => ?_
      refine T_region ?_
      refine L_y (y_move rfl) rfl ?_
      refine L_y (y_move rfl) rfl ?_
      refine L_y (y_conv is27 Try.underlying5 rfl (IntKind.wrap_u8 _)) rfl ?_
      refine L_o (o_bsl [_] te25 zz5 S2 rfl rfl rfl rfl rfl rfl rfl rfl fun b5 w5 S5 => ?_)
      refine L_o (o_app te25 S5 0 rfl rfl rfl (by first | exact S5.row 0 rfl | exact S5.row 1 rfl) (by first | exact bL_one _ | exact iL_one _ | (intro u hu; simp at hu; subst hu; rfl) | (simp; done) | (simp [Value.oneCell']; done)) rfl (by omega) (by omega) fun A6 c6 w6 S6 => ?_)
      have S6d := S6.drop (rs' := [_]) (.cons_cons _ (.cons _ (.refl _)))
      refine L_y (y_assign rfl) rfl ?_
      refine L_nil ?_
      refine hK7 _ _ ?_
      refine T_ret ?_
      repeat (first | with_reducible refine up_then ?_ | with_reducible refine up_in ?_)
      refine ret1 rfl rfl ?_
      exact ⟨_, rfl, S6d.like0, _, _, _, rfl, by have h := S6d.own 0 rfl; rw [← hm, vr_low y (by omega)]; simpa [bL, bV, IntKind.wrap_u8] using h⟩


set_option maxRecDepth 100000 in
theorem reftext (s : ByteArray) (w0 : World) (hs : s.size ≤ 70368744170000) :
    Calls Try.prog 35 #[.string s] w0 fun e w' => ∃ u, e = .returned u ∧ Like w0 w' ∧ ∃ A m c, u = .slice A m c ∧ w'.ownsRow w0.heap.size 5 1 (.slice A m c) m (bL (vr s.size ++ s.data.toList)) := by
  refine enter1 (env := [(0, .string s)]) [.string s] Try.func35 rfl Try.ntmps35 rfl rfl ?_
  have S0 := St.start w0 noM
  refine T_seq fun K1 hK1 => ?_
  refine T_region ?_
  refine L_y (y_assign rfl) rfl ?_
  refine L_nil ?_
  refine hK1 _ _ ?_
  refine T_seq fun K2 hK2 => ?_
  refine T_region ?_
  refine L_y (y_move rfl) rfl ?_
  refine L_y (y_lens Try.underlying9 rfl) rfl ?_
  refine L_y (y_conv is3 Try.underlying27 rfl (u64w (by omega))) rfl ?_
  refine L_o (o_call Try.func34 rfl rfl (refvar s.size w0 (by omega)) rfl rfl ?_)
  rintro e1 w1 ⟨v1, rfl, l1, A1, m1, c1, rfl, O1⟩
  refine ⟨_, rfl, ?_⟩
  have S1 := S0.adopt l1 O1
  have hv1 := (S1.row 0 rfl).lenb
  have hw1 := vr_len10 s.size (by omega)
  refine L_y (y_move rfl) rfl ?_
  refine L_o (o_sbytes Try.underlying9 Try.underlying25 Try.underlying5 rfl (by omega) S1 rfl fun b2 c2 w2 l2 S2 => ?_)
  refine L_o (o_app te25 S2 0 rfl rfl rfl (by first | exact S2.row 0 rfl | exact S2.fix 1 rfl) (by first | exact bL_one _ | exact iL_one _ | (intro u hu; simp at hu; subst hu; rfl) | (simp; done) | (simp [Value.oneCell']; done)) rfl (by omega) (by omega) fun A3 c3 w3 S3 => ?_)
  refine L_y (y_assign rfl) rfl ?_
  refine L_nil ?_
  refine hK2 _ _ ?_
  refine T_ret ?_
  repeat (first | with_reducible refine up_then ?_ | with_reducible refine up_in ?_)
  refine ret1 rfl rfl ?_
  exact ⟨_, rfl, S3.like0, _, _, _, rfl, by have h := S3.own 0 rfl; rwa [← bL_app] at h⟩


set_option maxRecDepth 100000 in
theorem same (A B : Option Addr) (n c m d : Nat) (a b : List UInt8) (w0 : World) (ha : Rs w0 1 A n c (bL a)) (hb : Rs w0 1 B m d (bL b)) :
    Calls Try.prog 12 #[.slice A n c, .slice B m d] w0 fun e w' => ∃ u, e = .returned u ∧ Like w0 w' ∧ u = .bool (decide (a = b)) := by
  refine enter1 (env := [(0, .slice A n c), (1, .slice B m d)]) [.slice A n c, .slice B m d] Try.func12 rfl Try.ntmps12 rfl rfl ?_
  have S0 := St.start w0 noM
  refine T_seq fun K1 hK1 => ?_
  refine T_region ?_
  refine L_y (y_assign rfl) rfl ?_
  refine L_nil ?_
  refine hK1 _ _ ?_
  refine T_seq fun K2 hK2 => ?_
  refine T_region ?_
  refine L_y (y_move rfl) rfl ?_
  refine L_y (y_bstr Try.underlying25 Try.underlying5 Try.underlying9 rfl (S0.rd ha)) rfl ?_
  refine L_y (y_move rfl) rfl ?_
  refine L_y (y_bstr Try.underlying25 Try.underlying5 Try.underlying9 rfl (S0.rd hb)) rfl ?_
  refine L_y (y_seql rfl rfl) rfl ?_
  refine L_y (y_assign rfl) rfl ?_
  refine L_nil ?_
  refine hK2 _ _ ?_
  refine T_ret ?_
  repeat (first | with_reducible refine up_then ?_ | with_reducible refine up_in ?_)
  refine ret1 rfl rfl ?_
  exact ⟨_, rfl, S0.like0, by rw [byt_inj]⟩


theorem big_set (x j k : Nat) (v : Value) (h : k < j) (hv : v = .int .u8 (IntKind.u8.wrap (((x / 256 ^ k : Nat) : Int) % 256))) : (bL (List.replicate (j - k) 0 ++ tl x k)).set (j - 1 - k) v = bL (List.replicate (j - (k + 1)) 0 ++ tl x (k + 1)) := by
  have e : v = bV (UInt8.ofNat (x / 256 ^ k % 256)) := by
    rw [hv]
    exact congrArg (Value.int _) (by rw [IntKind.wrap_u8, UInt8.toNat_ofNat']; omega)
  rw [e]
  unfold bL
  rw [← List.map_set, show j - k = (j - (k + 1)) + 1 by omega, List.replicate_succ', List.append_assoc, List.set_append_right _ _ (by simp; omega)]
  simp [tl, show j - 1 - k - (j - (k + 1)) = 0 by omega]


set_option maxRecDepth 100000 in
theorem refbig (x j : Nat) (w0 : World) (hx : x ≤ 18446744073709551615) (hj : j ≤ 8) :
    Calls Try.prog 33 #[.int .u64 (x : Int), .int .i64 (j : Int)] w0 fun e w' => ∃ u, e = .returned u ∧ Like w0 w' ∧ ∃ A m c, u = .slice A m c ∧ w'.ownsRow w0.heap.size 5 1 (.slice A m c) m (bL (tl x j)) := by
  refine enter1 (env := [(0, .int .u64 (x : Int)), (1, .int .i64 (j : Int))]) [.int .u64 (x : Int), .int .i64 (j : Int)] Try.func33 rfl Try.ntmps33 rfl rfl ?_
  have S0 := St.start w0 noM
  refine T_seq fun K1 hK1 => ?_
  refine T_region ?_
  refine L_y (y_assign rfl) rfl ?_
  refine L_nil ?_
  refine hK1 _ _ ?_
  refine T_seq fun K2 hK2 => ?_
  refine T_region ?_
  refine L_y (y_move rfl) rfl ?_
  refine L_o (o_make te25 rfl S0 rfl rfl inferInstance inferInstance rfl (by omega) (by omega) (by omega) fun b1 w1 S1 => ?_)
  refine L_y (y_assign rfl) rfl ?_
  refine L_nil ?_
  refine hK2 _ _ ?_
  refine T_seq fun K3 hK3 => ?_
  refine T_seq fun K4 hK4 => ?_
  refine T_region ?_
  refine L_y (y_assign rfl) rfl ?_
  refine L_nil ?_
  refine hK4 _ _ ?_
  refine T_block ?_
  refine T_loop1 [(1, _), (5, _)] (fun (k : Nat) => [(0, .int .u64 ((x / 256 ^ k : Nat) : Int)), (6, .int .i64 (k : Int))]) (fun (k : Nat) => j - k) (fun (k : Nat) (w : World) => k ≤ j ∧ St w0 noM [row 5 1 (some ⟨b1, 0, none⟩) j j (bL (List.replicate (j - k) 0 ++ tl x k))] w) 0 (Sub.cons rfl (by first | rfl | exact congrArg (Value.int _) (by omega)) (Sub.cons rfl (by first | rfl | exact congrArg (Value.int _) (by omega)) (Sub.nil _))) (Sub.cons rfl rfl (Sub.cons rfl rfl (Sub.nil _))) ?_ ?_
  ·
    exact ⟨Nat.zero_le _, S1.rowc 0 rfl rfl (by simp [tl, bL, bV])⟩
  ·
    intro k w2 hrel
    obtain ⟨hk, S2⟩ := hrel
    have hqb : x / 256 ^ k ≤ x := Nat.div_le_self _ _
    generalize hvj : x / 256 ^ k = vj at *
    refine T_seq fun K5 hK5 => ?_
    refine T_seq fun K6 hK6 => ?_
    refine T_region ?_
    refine L_y (y_move rfl) rfl ?_
    refine L_y (y_move rfl) rfl ?_
    refine L_y (y_lss rfl rfl) rfl ?_
    refine L_nil ?_
    refine hK6 _ _ ?_
    refine T_cond rfl (fun h11 => ?_) (fun h11 => ?_)
    ·
      refine T_skip ?_
      refine hK5 _ _ ?_
      refine T_seq fun K7 hK7 => ?_
      refine T_block ?_
      refine T_seq fun K8 hK8 => ?_
      refine T_region ?_
      refine L_y (y_move rfl) rfl ?_
      refine L_y (y_move rfl) rfl ?_
      refine L_y (y_sub rfl rfl (i64w (by omega))) rfl ?_
      refine L_y (y_move rfl) rfl ?_
      refine L_y (y_sub rfl rfl (i64w (by omega))) rfl ?_
      refine L_y (y_move rfl) rfl ?_
      refine L_y (y_rem rfl rfl (by omega) (remI (by omega))) rfl ?_
      refine L_y (y_conv is27 Try.underlying5 rfl (IntKind.wrap_u8 _)) rfl ?_
      refine L_y (y_idx Try.underlying25 sz5 rfl rfl (by first | exact S2.row 0 rfl) (Nt.mk (by omega) : Nt _ (j - 1 - k)) (by omega)) rfl ?_
      refine L_o (o_strow S2 0 rfl rfl rfl rfl sz5 (by omega) fun w3 S3 => ?_)
      refine L_nil ?_
      refine hK8 _ _ ?_
      refine T_region ?_
      refine L_y (y_move rfl) rfl ?_
      refine L_y (y_quo rfl rfl (by omega) (quoU (by omega) (by omega))) rfl ?_
      refine L_y (y_assign rfl) rfl ?_
      refine L_nil ?_
      refine hK7 _ _ ?_
      refine T_region ?_
      refine L_y (y_move rfl) rfl ?_
      refine L_y (y_add rfl rfl (i64w (by omega))) rfl ?_
      refine L_y (y_assign rfl) rfl ?_
      refine L_nil ?_
      have S9 := S3.rowc 0 rfl (n' := j) (xs' := bL (List.replicate (j - (k + 1)) 0 ++ tl x (k + 1))) rfl (big_set x j k _ (by omega) (by rw [hvj]; first | rfl | (congr 1; first | omega | (rw [IntKind.wrap_u8]; omega))))
      refine ⟨k + 1, by omega, ⟨by omega, S9⟩, ?_⟩
      exact (Sub.cons rfl (congrArg (Value.int _) (by rw [Nat.pow_succ, ← Nat.div_div_eq_div_mul, hvj]; omega)) (Sub.cons rfl (by first | rfl | exact congrArg (Value.int _) (by omega)) (Sub.cons rfl rfl (Sub.cons rfl rfl (Sub.nil _)))))
    ·
      have hkj : k = j := by omega
      subst hkj
      refine T_exit ?_
      refine hK3 _ _ ?_
      refine T_seq fun K9 hK9 => ?_
      refine T_region ?_
      refine L_y (y_move rfl) rfl ?_
      refine L_y (y_assign rfl) rfl ?_
      refine L_nil ?_
      refine hK9 _ _ ?_
      refine T_ret ?_
      repeat (first | with_reducible refine up_then ?_ | with_reducible refine up_in ?_)
      refine ret1 rfl rfl ?_
      exact ⟨_, rfl, S2.like0, _, _, _, rfl, by have h := S2.own 0 rfl; simpa using h⟩
end Go.Proofs.Ytcbnhmcfdpcbhaa
