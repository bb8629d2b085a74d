/-
  Texts alike.
-/
import Derived.Test.YtpcgldkllnkaeaaD
namespace Go.Proofs.Ytpcgldkllnkaeaa
open Go.RowKit Zk Zx
set_option linter.unusedVariables false
set_option linter.unusedSimpArgs false

theorem byt_inj (l k : List UInt8) : decide ((⟨l.toArray⟩ : ByteArray) = ⟨k.toArray⟩) = decide (l = k) := by
  by_cases h : l = k
  · subst h; simp
  · have : (⟨l.toArray⟩ : ByteArray) ≠ ⟨k.toArray⟩ := fun e => h (by simpa using e)
    simp [h]
/-- How many bytes two texts begin with alike. -/
def comP : List UInt8 → List UInt8 → Nat
  | a :: x, b :: y => if a = b then comP x y + 1 else 0
  | _, _ => 0
theorem g8_cons (a : UInt8) (l : List UInt8) (k : Nat) : g8 (a :: l) (k + 1) = g8 l k := by simp [g8]
theorem g8_zero (a b : UInt8) (l m : List UInt8) : g8 (a :: l) 0 = g8 (b :: m) 0 ↔ a = b := by
  simp only [g8, List.getD_cons_zero]
  constructor
  · intro h; exact UInt8.toNat_inj.1 (by omega)
  · intro h; rw [h]
theorem comP_stop : ∀ (a b : List UInt8) (i : Nat), (∀ j, j < i → g8 a j = g8 b j) → i ≤ a.length → i ≤ b.length → (a.length ≤ i ∨ b.length ≤ i ∨ g8 a i ≠ g8 b i) → comP a b = i
  | [], b, i, _, h1, _, _ => by
    have : i = 0 := by simpa using h1
    subst this
    unfold comP
    rfl
  | a :: x, [], i, _, _, h2, _ => by
    have : i = 0 := by simpa using h2
    subst this
    rfl
  | a :: x, b :: y, 0, _, _, _, hs => by
    rcases hs with hs | hs | hs
    · simp at hs
    · simp at hs
    · have : a ≠ b := fun e => hs ((g8_zero a b x y).2 e)
      unfold comP
      rw [if_neg this]
  | a :: x, b :: y, i + 1, h, h1, h2, hs => by
    have e : a = b := (g8_zero a b x y).1 (h 0 (by omega))
    unfold comP
    rw [if_pos e, comP_stop x y i (fun j hj => by have := h (j + 1) (by omega); rwa [g8_cons, g8_cons] at this) (by simpa using h1) (by simpa using h2) (by simpa [g8_cons] using hs)]
theorem g8_drop (l : List UInt8) (i j : Nat) : g8 (l.drop i) j = g8 l (i + j) := by
  unfold g8
  rw [List.getD_eq_getElem?_getD, List.getD_eq_getElem?_getD, List.getElem?_drop]
theorem comP_le : ∀ a b : List UInt8, comP a b ≤ a.length ∧ comP a b ≤ b.length
  | [], b => by unfold comP; simp
  | a :: x, [] => by unfold comP; simp
  | a :: x, b :: y => by
    unfold comP
    split
    · have := comP_le x y; simp; omega
    · simp
theorem comP_take : ∀ (a b : List UInt8) (n : Nat), n ≤ comP a b ↔ n ≤ a.length ∧ n ≤ b.length ∧ a.take n = b.take n
  | a, b, 0 => by simp
  | [], b, n + 1 => by
    have : comP [] b = 0 := by unfold comP; rfl
    simp [this]
  | a :: x, [], n + 1 => by simp [comP]
  | a :: x, b :: y, n + 1 => by
    unfold comP
    split
    · rename_i e
      subst e
      have := comP_take x y n
      simp only [List.length_cons, Nat.add_le_add_iff_right, List.take_succ_cons, List.cons.injEq, true_and]
      exact this
    · rename_i e
      constructor
      · intro h; omega
      · rintro ⟨_, _, h⟩
        simp only [List.take_succ_cons, List.cons.injEq] at h
        exact (e h.1).elim


set_option maxRecDepth 100000 in
theorem same1 (A B : Option Addr) (n c m d : Nat) (a b : List UInt8) (w0 : World) (ha : Rs w0 1 A n c (bL a)) (hb : Rs w0 1 B m d (bL b)) :
    Calls Try.prog 14 #[.slice A n c, .slice B m d] w0 fun e w' => ∃ u, e = .returned u ∧ Like w0 w' ∧ u = .bool (decide (a = b)) := by
  refine enter1 (env := [(0, .slice A n c), (1, .slice B m d)]) [.slice A n c, .slice B m d] Try.func14 rfl Try.ntmps14 rfl rfl ?_
  have S0 := St.start w0 noM
  refine T_seq fun K1 hK1 => ?_
  refine T_region ?_
  refine L_y (y_assign rfl) rfl ?_
  refine L_nil ?_
  refine hK1 _ _ ?_
  refine T_seq fun K2 hK2 => ?_
  refine T_region ?_
  refine L_y (y_move rfl) rfl ?_
  refine L_y (y_bstr Try.underlying22 Try.underlying5 Try.underlying9 rfl (S0.rd ha)) rfl ?_
  refine L_y (y_move rfl) rfl ?_
  refine L_y (y_bstr Try.underlying22 Try.underlying5 Try.underlying9 rfl (S0.rd hb)) rfl ?_
  refine L_y (y_seql rfl rfl) rfl ?_
  refine L_y (y_assign rfl) rfl ?_
  refine L_nil ?_
  refine hK2 _ _ ?_
  refine T_ret ?_
  repeat (first | with_reducible refine up_then ?_ | with_reducible refine up_in ?_)
  refine ret1 rfl rfl ?_
  exact ⟨_, rfl, S0.like0, by rw [byt_inj]⟩


set_option maxRecDepth 100000 in
theorem palike (A B : Option Addr) (n c m d : Nat) (a b : List UInt8) (w0 : World) (ha : Rs w0 1 A n c (bL a)) (hb : Rs w0 1 B m d (bL b)) :
    Calls Try.prog 53 #[.slice A n c, .slice B m d] w0 fun e w' => ∃ u, e = .returned u ∧ Like w0 w' ∧ u = .int .i64 (comP a b : Int) := by
  refine enter1 (env := [(0, .slice A n c), (1, .slice B m d)]) [.slice A n c, .slice B m d] Try.func53 rfl Try.ntmps53 rfl rfl ?_
  have hn := ha.lenb; have hm := hb.lenb; have hc1 := ha.cap; have hc2 := hb.cap; have hm1 := ha.max; have hm2 := hb.max; have S0 := St.start w0 noM
  refine T_seq fun K1 hK1 => ?_
  refine T_region ?_
  refine L_y (y_assign rfl) rfl ?_
  refine L_nil ?_
  refine hK1 _ _ ?_
  refine T_seq fun K2 hK2 => ?_
  refine T_region ?_
  refine L_y (y_move rfl) rfl ?_
  refine L_y (y_len Try.underlying22 rfl) rfl ?_
  refine L_y (y_move rfl) rfl ?_
  refine L_y (y_len Try.underlying22 rfl) rfl ?_
  refine L_y (y_min rfl rfl) rfl ?_
  refine L_y (y_assign rfl) rfl ?_
  refine L_nil ?_
  refine hK2 _ _ ?_
  refine T_seq fun K3 hK3 => ?_
  refine T_seq fun K4 hK4 => ?_
  refine T_region ?_
  refine L_y (y_move rfl) rfl ?_
  refine L_y (y_move rfl) rfl ?_
  refine L_nil ?_
  refine hK4 _ _ ?_
  refine T_block ?_
  refine T_loop1 [(0, _), (1, _), (5, _), (12, _)] (fun (i : Nat) => [(13, .int .i64 (i : Int))]) (fun (i : Nat) => n - i) (fun (i : Nat) (w : World) => (i ≤ n ∧ i ≤ m ∧ ∀ j, j < i → g8 a j = g8 b j) ∧ St w0 noM [] w) 0 (Sub.cons rfl (by first | rfl | exact congrArg (Value.int _) (by omega)) (Sub.nil _)) (Sub.cons rfl rfl (Sub.cons rfl rfl (Sub.cons rfl rfl (Sub.cons rfl rfl (Sub.nil _))))) ?_ ?_
  ·
    exact ⟨⟨Nat.zero_le _, Nat.zero_le _, fun j h => by omega⟩, S0⟩
  ·
    intro i w1 hrel
    obtain ⟨⟨hi, hi2, hj⟩, S1⟩ := hrel
    refine T_seq fun K5 hK5 => ?_
    refine T_region ?_
    refine L_y (y_lss rfl rfl) rfl ?_
    refine L_nil ?_
    refine hK5 _ _ ?_
    refine T_seq fun K6 hK6 => ?_
    refine T_cond rfl (fun h14 => ?_) (fun h14 => ?_)
    ·
      refine T_skip ?_
      refine hK6 _ _ ?_
      refine T_seq fun K7 hK7 => ?_
      refine T_block ?_
      refine T_seq fun K8 hK8 => ?_
      refine T_region ?_
      refine L_y (y_move rfl) rfl ?_
      refine L_y (y_assign rfl) rfl ?_
      refine L_nil ?_
      refine hK8 _ _ ?_
      refine T_seq fun K9 hK9 => ?_
      refine T_drawnL [(0, true), (1, true), (2, true), (3, true), (4, true), (5, true), (6, true), (7, true), (8, true)] hmix (by kernel_rfl) fun w2 l2 => ?_
      have S2 := S1.like l2
      refine DL_y rfl (y_move rfl) rfl ?_
      refine DL_y rfl (y_move rfl) rfl ?_
      refine DL_y rfl (y_idx Try.underlying22 sz5 rfl rfl (S2.rd ha) (Nt.mk (by omega) : Nt _ (i)) (by omega)) rfl ?_
      refine DL_yb rfl (y_ldb Try.underlying5 rfl rfl (S2.rd ha) (by omega)) rfl fun _ _ => ?_
      refine DL_y rfl (y_move rfl) rfl ?_
      refine DL_y rfl (y_move rfl) rfl ?_
      refine DL_y rfl (y_idx Try.underlying22 sz5 rfl rfl (S2.rd hb) (Nt.mk (by omega) : Nt _ (i)) (by omega)) rfl ?_
      refine DL_yb rfl (y_ldb Try.underlying5 rfl rfl (S2.rd hb) (by omega)) rfl fun _ _ => ?_
      refine DL_y rfl (y_neq rfl rfl) rfl ?_
      refine DL_nil ?_
      refine hK9 _ _ ?_
      refine T_cond rfl (fun h24 => ?_) (fun h24 => ?_)
      ·
        refine T_seq fun K10 hK10 => ?_
        refine T_region ?_
        refine L_y (y_move rfl) rfl ?_
        refine L_y (y_assign rfl) rfl ?_
        refine L_nil ?_
        refine hK10 _ _ ?_
        refine T_ret ?_
        repeat (first | with_reducible refine up_then ?_ | with_reducible refine up_in ?_)
        refine ret1 rfl rfl ?_
        first | exact ⟨_, rfl, S2.like0, by rw [comP_stop a b i hj (by omega) (by omega) (.inr (.inr h24))]⟩ | exact ⟨_, rfl, S2.like0, by rw [comP_stop a b i hj (by omega) (by omega) (by omega)]; congr 1; omega⟩
      ·
        refine T_skip ?_
        refine hK7 _ _ ?_
        refine T_region ?_
        refine L_y (y_add rfl rfl (i64w (by omega))) rfl ?_
        refine L_y (y_move rfl) rfl ?_
        refine L_nil ?_
        refine ⟨i + 1, by omega, ⟨⟨by omega, by omega, fun j h => by rcases Nat.lt_or_ge j i with q | q; exact hj j q; (rw [show j = i by omega]; omega)⟩, S2⟩, ?_⟩
        exact (Sub.cons rfl (by first | rfl | exact congrArg (Value.int _) (by omega)) (Sub.cons rfl rfl (Sub.cons rfl rfl (Sub.cons rfl rfl (Sub.cons rfl rfl (Sub.nil _))))))
    ·
      refine T_exit ?_
      refine hK3 _ _ ?_
      refine T_seq fun K11 hK11 => ?_
      refine T_region ?_
      refine L_y (y_move rfl) rfl ?_
      refine L_y (y_assign rfl) rfl ?_
      refine L_nil ?_
      refine hK11 _ _ ?_
      refine T_ret ?_
      repeat (first | with_reducible refine up_then ?_ | with_reducible refine up_in ?_)
      refine ret1 rfl rfl ?_
      first | exact ⟨_, rfl, S1.like0, by rw [comP_stop a b i hj (by omega) (by omega) (.inr (.inr h24))]⟩ | exact ⟨_, rfl, S1.like0, by rw [comP_stop a b i hj (by omega) (by omega) (by omega)]; congr 1; omega⟩


set_option maxRecDepth 100000 in
theorem rbegins (A B : Option Addr) (n c m d : Nat) (a b : List UInt8) (i k : Nat) (w0 : World) (ha : Rs w0 1 A n c (bL a)) (hb : Rs w0 1 B m d (bL b)) (hi0 : i ≤ n) (hk0 : k ≤ m) :
    Calls Try.prog 51 #[.slice A n c, .int .i64 (i : Int), .slice B m d, .int .i64 (k : Int)] w0 fun e w' => ∃ u, e = .returned u ∧ Like w0 w' ∧ u = .int .i64 (comP (a.drop i) (b.drop k) : Int) := by
  refine enter1 (env := [(0, .slice A n c), (1, .int .i64 (i : Int)), (2, .slice B m d), (3, .int .i64 (k : Int))]) [.slice A n c, .int .i64 (i : Int), .slice B m d, .int .i64 (k : Int)] Try.func51 rfl Try.ntmps51 rfl rfl ?_
  have hn := ha.lenb; have hm := hb.lenb; have hc1 := ha.cap; have hc2 := hb.cap; have hm1 := ha.max; have hm2 := hb.max; have S0 := St.start w0 noM
  refine T_seq fun K1 hK1 => ?_
  refine T_region ?_
  refine L_y (y_assign rfl) rfl ?_
  refine L_nil ?_
  refine hK1 _ _ ?_
  refine T_seq fun K2 hK2 => ?_
  refine T_region ?_
  refine L_y (y_assign rfl) rfl ?_
  refine L_nil ?_
  refine hK2 _ _ ?_
  refine T_seq fun K3 hK3 => ?_
  refine T_block ?_
  refine T_loop1 [(0, _), (1, _), (2, _), (3, _)] (fun (q : Nat) => [(9, .int .i64 (q : Int))]) (fun (q : Nat) => n - q) (fun (q : Nat) (w : World) => (i + q ≤ n ∧ k + q ≤ m ∧ ∀ j, j < q → g8 (a.drop i) j = g8 (b.drop k) j) ∧ St w0 noM [] w) 0 (Sub.cons rfl (by first | rfl | exact congrArg (Value.int _) (by omega)) (Sub.nil _)) (Sub.cons rfl rfl (Sub.cons rfl rfl (Sub.cons rfl rfl (Sub.cons rfl rfl (Sub.nil _))))) ?_ ?_
  ·
    exact ⟨⟨by omega, by omega, fun j h => by omega⟩, S0⟩
  ·
    intro q w1 hrel
    obtain ⟨⟨hq, hq2, hj⟩, S1⟩ := hrel
    refine T_seq fun K4 hK4 => ?_
    refine T_seq fun K5 hK5 => ?_
    refine T_drawnL [(0, true), (1, true), (2, true), (3, true), (4, true), (5, true), (6, true), (7, true), (8, true), (9, true), (10, true), (11, true), (12, true), (13, true), (14, true), (15, true), (16, true), (17, true), (18, true), (19, true), (20, true), (21, true), (22, true), (23, true), (24, true), (25, true), (26, true), (27, true), (28, true)] hmix (by kernel_rfl) fun w2 l2 => ?_
    have S2 := S1.like l2
    refine DL_y rfl (y_move rfl) rfl ?_
    refine DL_y rfl (y_move rfl) rfl ?_
    refine DL_y rfl (y_add rfl rfl (i64w (by omega))) rfl ?_
    refine DL_y rfl (y_move rfl) rfl ?_
    refine DL_y rfl (y_len Try.underlying22 rfl) rfl ?_
    refine DL_y rfl (y_lss rfl rfl) rfl ?_
    refine DL_y rfl (y_move rfl) rfl ?_
    refine DL_split 16 rfl (fun h16 => ?_) (fun h16 => ?_)
    ·
      refine DL_gyes rfl rfl rfl (y_move rfl) rfl ?_
      refine DL_gyes rfl rfl rfl (y_move rfl) rfl ?_
      refine DL_gyes rfl rfl rfl (y_add rfl rfl (i64w (by omega))) rfl ?_
      refine DL_gyes rfl rfl rfl (y_move rfl) rfl ?_
      refine DL_gyes rfl rfl rfl (y_len Try.underlying22 rfl) rfl ?_
      refine DL_gyes rfl rfl rfl (y_lss rfl rfl) rfl ?_
      refine DL_y rfl ((by first | exact y_pickT rfl rfl | exact y_pickF rfl rfl)) rfl ?_
      refine DL_y rfl (y_move rfl) rfl ?_
      refine DL_split 24 rfl (fun h24 => ?_) (fun h24 => ?_)
      ·
        refine DL_gyes rfl rfl rfl (y_move rfl) rfl ?_
        refine DL_gyes rfl rfl rfl (y_move rfl) rfl ?_
        refine DL_gyes rfl rfl rfl (y_move rfl) rfl ?_
        refine DL_gyes rfl rfl rfl (y_add rfl rfl (i64w (by omega))) rfl ?_
        refine DL_gyes rfl rfl rfl (y_idx Try.underlying22 sz5 rfl rfl (S2.rd ha) (Nt.mk (by omega) : Nt _ (i + q)) (by omega)) rfl ?_
        refine DL_gyes rfl rfl rfl (y_ldb Try.underlying5 rfl rfl (S2.rd ha) (by omega)) rfl ?_
        refine DL_gyes rfl rfl rfl (y_move rfl) rfl ?_
        refine DL_gyes rfl rfl rfl (y_move rfl) rfl ?_
        refine DL_gyes rfl rfl rfl (y_move rfl) rfl ?_
        refine DL_gyes rfl rfl rfl (y_add rfl rfl (i64w (by omega))) rfl ?_
        refine DL_gyes rfl rfl rfl (y_idx Try.underlying22 sz5 rfl rfl (S2.rd hb) (Nt.mk (by omega) : Nt _ (k + q)) (by omega)) rfl ?_
        refine DL_gyes rfl rfl rfl (y_ldb Try.underlying5 rfl rfl (S2.rd hb) (by omega)) rfl ?_
        refine DL_gyes rfl rfl rfl (y_eql rfl rfl) rfl ?_
        refine DL_y rfl ((by first | exact y_pickT rfl rfl | exact y_pickF rfl rfl)) rfl ?_
        refine DL_nil ?_
        refine hK5 _ _ ?_
        refine T_cond rfl (fun h38 => ?_) (fun h38 => ?_)
        ·
          refine T_skip ?_
          refine hK4 _ _ ?_
          refine T_block ?_
          refine T_region ?_
          refine L_y (y_move rfl) rfl ?_
          refine L_y (y_add rfl rfl (i64w (by omega))) rfl ?_
          refine L_y (y_assign rfl) rfl ?_
          refine L_nil ?_
          refine ⟨q + 1, by omega, ⟨⟨by omega, by omega, fun j h => by rcases Nat.lt_or_ge j q with z | z; exact hj j z; (rw [show j = q by omega, g8_drop, g8_drop]; omega)⟩, S2⟩, ?_⟩
          exact (Sub.cons rfl (by first | rfl | exact congrArg (Value.int _) (by omega)) (Sub.cons rfl rfl (Sub.cons rfl rfl (Sub.cons rfl rfl (Sub.cons rfl rfl (Sub.nil _))))))
        ·
          refine T_exit ?_
          refine hK3 _ _ ?_
          refine T_seq fun K6 hK6 => ?_
          refine T_region ?_
          refine L_y (y_move rfl) rfl ?_
          refine L_y (y_assign rfl) rfl ?_
          refine L_nil ?_
          refine hK6 _ _ ?_
          refine T_ret ?_
          repeat (first | with_reducible refine up_then ?_ | with_reducible refine up_in ?_)
          refine ret1 rfl rfl ?_
          first | exact ⟨_, rfl, S2.like0, by rw [comP_stop (a.drop i) (b.drop k) q hj (by rw [List.length_drop]; omega) (by rw [List.length_drop]; omega) (by rw [List.length_drop, List.length_drop, g8_drop, g8_drop]; omega)]⟩
      ·
        refine DL_gno rfl rfl rfl rfl ?_
        refine DL_gno rfl rfl rfl rfl ?_
        refine DL_gno rfl rfl rfl rfl ?_
        refine DL_gno rfl rfl rfl rfl ?_
        refine DL_gno rfl rfl rfl rfl ?_
        refine DL_gno rfl rfl rfl rfl ?_
        refine DL_gno rfl rfl rfl rfl ?_
        refine DL_gno rfl rfl rfl rfl ?_
        refine DL_gno rfl rfl rfl rfl ?_
        refine DL_gno rfl rfl rfl rfl ?_
        refine DL_gno rfl rfl rfl rfl ?_
        refine DL_gno rfl rfl rfl rfl ?_
        refine DL_gno rfl rfl rfl rfl ?_
        refine DL_y rfl ((by first | exact y_pickT rfl rfl | exact y_pickF rfl rfl)) rfl ?_
        refine DL_nil ?_
        refine hK5 _ _ ?_
        refine T_false rfl ?_
        refine T_exit ?_
        refine hK3 _ _ ?_
        refine T_seq fun K7 hK7 => ?_
        refine T_region ?_
        refine L_y (y_move rfl) rfl ?_
        refine L_y (y_assign rfl) rfl ?_
        refine L_nil ?_
        refine hK7 _ _ ?_
        refine T_ret ?_
        repeat (first | with_reducible refine up_then ?_ | with_reducible refine up_in ?_)
        refine ret1 rfl rfl ?_
        first | exact ⟨_, rfl, S2.like0, by rw [comP_stop (a.drop i) (b.drop k) q hj (by rw [List.length_drop]; omega) (by rw [List.length_drop]; omega) (by rw [List.length_drop, List.length_drop, g8_drop, g8_drop]; omega)]⟩
    ·
      refine DL_gno rfl rfl rfl rfl ?_
      refine DL_gno rfl rfl rfl rfl ?_
      refine DL_gno rfl rfl rfl rfl ?_
      refine DL_gno rfl rfl rfl rfl ?_
      refine DL_gno rfl rfl rfl rfl ?_
      refine DL_gno rfl rfl rfl rfl ?_
      refine DL_y rfl ((by first | exact y_pickT rfl rfl | exact y_pickF rfl rfl)) rfl ?_
      refine DL_y rfl (y_move rfl) rfl ?_
      refine DL_gno rfl rfl rfl rfl ?_
      refine DL_gno rfl rfl rfl rfl ?_
      refine DL_gno rfl rfl rfl rfl ?_
      refine DL_gno rfl rfl rfl rfl ?_
      refine DL_gno rfl rfl rfl rfl ?_
      refine DL_gno rfl rfl rfl rfl ?_
      refine DL_gno rfl rfl rfl rfl ?_
      refine DL_gno rfl rfl rfl rfl ?_
      refine DL_gno rfl rfl rfl rfl ?_
      refine DL_gno rfl rfl rfl rfl ?_
      refine DL_gno rfl rfl rfl rfl ?_
      refine DL_gno rfl rfl rfl rfl ?_
      refine DL_gno rfl rfl rfl rfl ?_
      refine DL_y rfl ((by first | exact y_pickT rfl rfl | exact y_pickF rfl rfl)) rfl ?_
      refine DL_nil ?_
      refine hK5 _ _ ?_
      refine T_false rfl ?_
      refine T_exit ?_
      refine hK3 _ _ ?_
      refine T_seq fun K8 hK8 => ?_
      refine T_region ?_
      refine L_y (y_move rfl) rfl ?_
      refine L_y (y_assign rfl) rfl ?_
      refine L_nil ?_
      refine hK8 _ _ ?_
      refine T_ret ?_
      repeat (first | with_reducible refine up_then ?_ | with_reducible refine up_in ?_)
      refine ret1 rfl rfl ?_
      first | exact ⟨_, rfl, S2.like0, by rw [comP_stop (a.drop i) (b.drop k) q hj (by rw [List.length_drop]; omega) (by rw [List.length_drop]; omega) (by rw [List.length_drop, List.length_drop, g8_drop, g8_drop]; omega)]⟩


theorem rs_nil1 {w : World} {A : Option Addr} {n c : Nat} {l : List UInt8} (hl : Rs w 1 A n c (bL l)) (h : A = none) : n = 0 := by
  subst h
  rcases Nat.eq_zero_or_pos n with q | q
  · exact q
  · obtain ⟨_, h2, _⟩ := hl.rd.2 q
    cases h2


set_option maxRecDepth 100000 in
theorem bclone (A : Option Addr) (n c : Nat) (a : List UInt8) (w0 : World) (ha : Rs w0 1 A n c (bL a)) (hmx : n ≤ 4611686018427) :
    Calls Try.prog 41 #[.slice A n c] w0 fun e w' => ∃ u, e = .returned u ∧ Like w0 w' ∧ ∃ A' c', u = .slice A' n c' ∧ w'.ownsRow w0.heap.size 5 1 (.slice A' n c') n (bL a) := by
  refine enter1 (env := [(0, .slice A n c)]) [.slice A n c] Try.func41 rfl Try.ntmps41 rfl rfl ?_
  have hz := rs_nil1 ha; have hn := ha.lenb; have hcap := ha.cap; have hmax := ha.max; have S0 := St.start w0 noM
  refine T_seq fun K1 hK1 => ?_
  refine T_region ?_
  refine L_y (y_assign rfl) rfl ?_
  refine L_nil ?_
  refine hK1 _ _ ?_
  refine T_seq fun K2 hK2 => ?_
  refine T_seq fun K3 hK3 => ?_
  refine T_region ?_
  refine L_y (y_move rfl) rfl ?_
  refine L_y (y_seqn Try.underlying22 rfl) rfl ?_
  refine L_nil ?_
  refine hK3 _ _ ?_
  refine T_condB rfl (fun h4 => ?_) (fun h4 => ?_)
  ·
    refine T_seq fun K4 hK4 => ?_
    refine T_region ?_
    refine L_y (y_assign rfl) rfl ?_
    refine L_nil ?_
    refine hK4 _ _ ?_
    refine T_ret ?_
    repeat (first | with_reducible refine up_then ?_ | with_reducible refine up_in ?_)
    refine ret1 rfl rfl ?_
    first | exact ⟨_, rfl, S0.like0, _, _, by rw [Nat.zero_add], by have h9 := S0.own 0 rfl; rw [Nat.zero_add] at h9; exact h9⟩ | exact ⟨_, rfl, S0.like0, none, 0, by rw [hz (by simpa using h4)], by rw [hz (by simpa using h4), show a = [] from List.eq_nil_of_length_eq_zero (by have := hz (by simpa using h4); omega)]; exact World.ownsRow_nil _ _ _ _⟩
  ·
    refine T_skip ?_
    refine hK2 _ _ ?_
    refine T_seq fun K5 hK5 => ?_
    refine T_region ?_
    refine L_o (o_bsl0 te22 S0 rfl fun b1 w1 l1 S1 => ?_)
    refine L_y (y_move rfl) rfl ?_
    refine L_o (o_app te22 S1 0 rfl rfl rfl (S1.rd ha) (bL_one _) rfl (by omega) (by omega) fun A2 c2 w2 S2 => ?_)
    refine L_y (y_assign rfl) rfl ?_
    refine L_nil ?_
    refine hK5 _ _ ?_
    refine T_ret ?_
    repeat (first | with_reducible refine up_then ?_ | with_reducible refine up_in ?_)
    refine ret1 rfl rfl ?_
    first | exact ⟨_, rfl, S2.like0, _, _, by rw [Nat.zero_add], by have h9 := S2.own 0 rfl; rw [Nat.zero_add] at h9; exact h9⟩ | exact ⟨_, rfl, S2.like0, none, 0, by rw [hz (by simpa using h4)], by rw [hz (by simpa using h4), show a = [] from List.eq_nil_of_length_eq_zero (by have := hz (by simpa using h4); omega)]; exact World.ownsRow_nil _ _ _ _⟩
end Go.Proofs.Ytpcgldkllnkaeaa
