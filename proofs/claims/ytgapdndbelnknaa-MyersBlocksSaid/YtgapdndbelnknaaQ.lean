/-
  The laws MyersDiffs, MyersDistances.
-/
import Derived.Test.YtgapdndbelnknaaP
import Derived.Test.YtgapdndbelnknaaZs
import Derived.Test.YtgapdndbelnknaaZi
namespace Go.Proofs.Ytgapdndbelnknaa
open Go.RowKit Zk Zx
set_option linter.unusedVariables false
set_option linter.unusedSimpArgs false

theorem pf_n {w : World} {A : Option Addr} {n c : Nat} {xs : List (Nat × Nat)} (h : Rs w 2 A n c (xs.flatMap pf)) : n = xs.length := by
  have := h.len
  rw [pf_len] at this
  omega
theorem fieldsPair : FieldsI Try.prog [{ name := "A", type := 3, offset := 0, embedded := false, tag := "", pkgPath := "", byteOffset := 0 }, { name := "B", type := 3, offset := 1, embedded := false, tag := "", pkgPath := "", byteOffset := 8 }] 0 :=
  ⟨by decide, rfl, Try.underlying3, by decide, rfl, Try.underlying3, trivial⟩
theorem keep_works : keepT [1, 2, 3] [2, 4, 3] 0 0 = [(1, 0), (2, 2)] := by
  have e1 : rR [1, 2, 3] [2, 4, 3] 0 0 = 2 := by simp [rR, ed]
  have e2 : rR [1, 2, 3] [2, 4, 3] 1 0 = 1 := by simp [rR, ed]
  have e3 : rR [1, 2, 3] [2, 4, 3] 2 1 = 1 := by simp [rR, ed]
  have e4 : rR [1, 2, 3] [2, 4, 3] 3 1 = 2 := by simp [rR, ed]
  rw [keep_a (by simp) (by rw [e1, e2]; simp), keep_hit (by simp), keep_b (by simp) (by rw [e3, e4]; simp) (by simp), keep_hit (by simp), keep_end (by simp) (by simp)]


set_option maxRecDepth 100000 in
theorem rsame (A B : Option Addr) (n c m d : Nat) (xs : List (Nat × Nat)) (w0 : World) (hx : Rs w0 2 A n c (xs.flatMap pf)) (hy : Rs w0 2 B m d (xs.flatMap pf)) :
    Calls Try.prog 10 #[.slice A n c, .slice B m d] w0 fun e w' => ∃ u, e = .returned u ∧ Like w0 w' ∧ u = .bool true := by
  refine enter1 (env := [(0, .slice A n c), (1, .slice B m d)]) [.slice A n c, .slice B m d] Try.func10 rfl Try.ntmps10 rfl rfl ?_
  have hn := pf_n hx; have hm := pf_n hy; have hcap := hx.cap; have hmax := hx.max; have S0 := St.start w0 noM
  refine T_seq fun K1 hK1 => ?_
  refine T_region ?_
  refine L_y (y_assign rfl) rfl ?_
  refine L_nil ?_
  refine hK1 _ _ ?_
  refine T_seq fun K2 hK2 => ?_
  refine T_seq fun K3 hK3 => ?_
  refine T_region ?_
  refine L_y (y_move rfl) rfl ?_
  refine L_y (y_len Try.underlying25 rfl) rfl ?_
  refine L_y (y_move rfl) rfl ?_
  refine L_y (y_len Try.underlying25 rfl) rfl ?_
  refine L_y (y_neq rfl rfl) rfl ?_
  refine L_nil ?_
  refine hK3 _ _ ?_
  refine T_cond rfl (fun h10 => ?_) (fun h10 => ?_)
  ·
    exact absurd h10 (by omega)
  ·
    refine T_skip ?_
    refine hK2 _ _ ?_
    refine T_seq fun K4 hK4 => ?_
    refine T_seq fun K5 hK5 => ?_
    refine T_region ?_
    refine L_y (y_assign rfl) rfl ?_
    refine L_nil ?_
    refine hK5 _ _ ?_
    refine T_block ?_
    refine T_loop1 [(0, _), (1, _)] (fun (k : Nat) => [(5, .int .i64 (k : Int))]) (fun (k : Nat) => n - k) (fun (k : Nat) (w : World) => k ≤ n ∧ St w0 noM [] w) 0 (Sub.cons rfl (by first | rfl | exact congrArg (Value.int _) (by omega)) (Sub.nil _)) (Sub.cons rfl rfl (Sub.cons rfl rfl (Sub.nil _))) ?_ ?_
    ·
      exact ⟨Nat.zero_le _, S0⟩
    ·
      intro k w1 hrel
      obtain ⟨hk, S1⟩ := hrel
      refine T_seq fun K6 hK6 => ?_
      refine T_seq fun K7 hK7 => ?_
      refine T_region ?_
      refine L_y (y_move rfl) rfl ?_
      refine L_y (y_move rfl) rfl ?_
      refine L_y (y_len Try.underlying25 rfl) rfl ?_
      refine L_y (y_lss rfl rfl) rfl ?_
      refine L_nil ?_
      refine hK7 _ _ ?_
      refine T_cond rfl (fun h14 => ?_) (fun h14 => ?_)
      ·
        obtain ⟨p, hp⟩ : ∃ p, xs[k]? = some p := ⟨_, List.getElem?_eq_getElem (by omega)⟩
        refine T_skip ?_
        refine hK6 _ _ ?_
        refine T_seq fun K8 hK8 => ?_
        refine T_block ?_
        refine T_seq fun K9 hK9 => ?_
        refine T_drawnL [(0, true), (1, true), (2, true), (3, true), (4, true), (5, true), (6, true), (7, true), (8, true)] hmix (by kernel_rfl) fun w2 l2 => ?_
        have S2 := S1.like l2
        refine DL_y rfl (y_move rfl) rfl ?_
        refine DL_y rfl (y_move rfl) rfl ?_
        refine DL_y rfl (y_idx Try.underlying25 sz36 rfl rfl (S2.rd hx) inferInstance (by omega)) rfl ?_
        refine DL_y rfl (y_ldp (f := pf) (fun _ => rfl) Try.underlying36 rfl sz36 rfl (S2.rd hx) (by omega) hp) rfl ?_
        refine DL_y rfl (y_move rfl) rfl ?_
        refine DL_y rfl (y_move rfl) rfl ?_
        refine DL_y rfl (y_idx Try.underlying25 sz36 rfl rfl (S2.rd hy) inferInstance (by omega)) rfl ?_
        refine DL_y rfl (y_ldp (f := pf) (fun _ => rfl) Try.underlying36 rfl sz36 rfl (S2.rd hy) (by omega) hp) rfl ?_
        refine DL_y rfl (y_neI (xs := [(p.1 : Int), (p.2 : Int)]) (ys := [(p.1 : Int), (p.2 : Int)]) Try.underlying36 (by kernel_rfl) (by kernel_rfl) fieldsPair rfl rfl rfl rfl) rfl ?_
        refine DL_nil ?_
        refine hK9 _ _ ?_
        refine T_cond rfl (fun h25 => ?_) (fun h25 => ?_)
        ·
          exact absurd rfl h25
        ·
          refine T_skip ?_
          refine hK8 _ _ ?_
          refine T_region ?_
          refine L_y (y_move rfl) rfl ?_
          refine L_y (y_add rfl rfl (i64w (by omega))) rfl ?_
          refine L_y (y_assign rfl) rfl ?_
          refine L_nil ?_
          refine ⟨k + 1, by omega, ⟨by omega, S2⟩, ?_⟩
          exact (Sub.cons rfl (by first | rfl | exact congrArg (Value.int _) (by omega)) (Sub.cons rfl rfl (Sub.cons rfl rfl (Sub.nil _))))
      ·
        refine T_exit ?_
        refine hK4 _ _ ?_
        refine T_seq fun K10 hK10 => ?_
        refine T_region ?_
        refine L_y (y_assign rfl) rfl ?_
        refine L_nil ?_
        refine hK10 _ _ ?_
        refine T_ret ?_
        repeat (first | with_reducible refine up_then ?_ | with_reducible refine up_in ?_)
        refine ret1 rfl rfl ?_
        exact ⟨_, rfl, S1.like0, rfl⟩


set_option maxRecDepth 100000 in
theorem long (A B : Option Addr) (n ca m cb : Nat) (w0 : World)  :
    Calls Try.prog 7 #[.slice A n ca, .slice B m cb] w0 fun e w' => ∃ u, e = .returned u ∧ Like w0 w' ∧ u = .bool (decide (150 < n ∨ 150 < m)) := by
  refine enter1 (env := [(0, .slice A n ca), (1, .slice B m cb)]) [.slice A n ca, .slice B m cb] Try.func7 rfl Try.ntmps7 rfl rfl ?_
  have S0 := St.start w0 noM
  refine T_seq fun K1 hK1 => ?_
  refine T_region ?_
  refine L_y (y_assign rfl) rfl ?_
  refine L_nil ?_
  refine hK1 _ _ ?_
  refine T_seq fun K2 hK2 => ?_
  refine T_region ?_
  refine L_y (y_move rfl) rfl ?_
  refine L_y (y_len Try.underlying22 rfl) rfl ?_
  refine L_y (y_gtr rfl rfl) rfl ?_
  refine L_y (y_move rfl) rfl ?_
  refine L_split 8 rfl (fun h8 => ?_) (fun h8 => ?_)
  ·
    refine L_gno rfl rfl rfl ?_
    refine L_gno rfl rfl rfl ?_
    refine L_gno rfl rfl rfl ?_
    refine L_y ((by first | exact y_pickT rfl rfl | exact y_pickF rfl rfl)) rfl ?_
    refine L_y (y_assign rfl) rfl ?_
    refine L_nil ?_
    refine hK2 _ _ ?_
    refine T_ret ?_
    repeat (first | with_reducible refine up_then ?_ | with_reducible refine up_in ?_)
    refine ret1 rfl rfl ?_
    exact ⟨_, rfl, S0.like0, congrArg Value.bool (by first | exact (decide_eq_true (by omega)).symm | exact decide_eq_decide.2 (by omega))⟩
  ·
    refine L_gyes rfl rfl ?_
    refine L_y (y_move rfl) rfl ?_
    refine L_gyes rfl rfl ?_
    refine L_y (y_len Try.underlying22 rfl) rfl ?_
    refine L_gyes rfl rfl ?_
    refine L_y (y_gtr rfl rfl) rfl ?_
    refine L_y ((by first | exact y_pickT rfl rfl | exact y_pickF rfl rfl)) rfl ?_
    refine L_y (y_assign rfl) rfl ?_
    refine L_nil ?_
    refine hK2 _ _ ?_
    refine T_ret ?_
    repeat (first | with_reducible refine up_then ?_ | with_reducible refine up_in ?_)
    refine ret1 rfl rfl ?_
    exact ⟨_, rfl, S0.like0, congrArg Value.bool (by first | exact (decide_eq_true (by omega)).symm | exact decide_eq_decide.2 (by omega))⟩


set_option maxRecDepth 100000 in
theorem works  (w0 : World)  :
    Calls Try.prog 8 #[] w0 fun e w' => ∃ u, e = .returned u ∧ Like w0 w' ∧ u = .bool true := by
  refine enter1 (env := []) [] Try.func8 rfl Try.ntmps8 rfl rfl ?_
  have S0 := St.start w0 noM
  refine T_seq fun K1 hK1 => ?_
  refine T_region ?_
  refine L_y (y_assign rfl) rfl ?_
  refine L_nil ?_
  refine hK1 _ _ ?_
  refine T_seq fun K2 hK2 => ?_
  refine T_region ?_
  refine L_o (o_bsl [_, _, _] te22 zz3 S0 rfl rfl rfl rfl rfl rfl rfl rfl fun b1 w1 S1 => ?_)
  refine L_o (o_bsl [_, _, _] te22 zz3 S1 rfl rfl rfl rfl rfl rfl rfl rfl fun b2 w2 S2 => ?_)
  refine L_o (o_call Try.func9 rfl rfl (fdiff _ _ _ _ _ _ [1, 2, 3] [2, 4, 3] w2 (S2.row 0 rfl) (S2.row 1 rfl) (by omega) (by omega)) rfl rfl ?_)
  rintro e3 w3 ⟨v3, rfl, l3, AR, mR, cR, rfl, O3⟩
  refine ⟨_, rfl, ?_⟩
  have S3 := S2.adopt l3 O3
  have hmR := pf_n (S3.row 2 rfl)
  rw [keep_works] at hmR
  have hmR2 : mR = 2 := hmR
  subst hmR2
  refine L_y (y_move rfl) rfl ?_
  refine L_y (y_extract rfl rfl) rfl ?_
  refine L_y (y_extract rfl rfl) rfl ?_
  refine L_y (y_assign rfl) rfl ?_
  refine L_y (y_assign rfl) rfl ?_
  refine L_nil ?_
  refine hK2 _ _ ?_
  refine T_seq fun K3 hK3 => ?_
  refine T_region ?_
  refine L_y (y_move rfl) rfl ?_
  refine L_y (y_eql rfl rfl) rfl ?_
  refine L_y (y_move rfl) rfl ?_
  refine L_split 11 rfl (fun h11 => ?_) (fun h11 => ?_)
  ·
    refine L_gyes rfl rfl ?_
    refine L_y (y_move rfl) rfl ?_
    refine L_gyes rfl rfl ?_
    refine L_y (y_len Try.underlying25 rfl) rfl ?_
    refine L_gyes rfl rfl ?_
    refine L_y (y_eql rfl rfl) rfl ?_
    refine L_y ((by first | exact y_pickT rfl rfl | exact y_pickF rfl rfl)) rfl ?_
    refine L_y (y_move rfl) rfl ?_
    refine L_split 16 rfl (fun h16 => ?_) (fun h16 => ?_)
    ·
      refine L_gyes rfl rfl ?_
      refine L_y (y_move rfl) rfl ?_
      refine L_gyes rfl rfl ?_
      refine L_y (y_idx Try.underlying25 sz36 rfl rfl (S3.row 2 rfl) inferInstance (by omega)) rfl ?_
      refine L_gyes rfl rfl ?_
      refine L_y (y_ldp (f := pf) (fun _ => rfl) Try.underlying36 rfl sz36 rfl (S3.row 2 rfl) (by omega) (by rw [keep_works]; rfl : _ = some (1, 0))) rfl ?_
      refine L_gyes rfl rfl ?_
      refine L_y (y_build rfl (show _ = some #[Value.int .i64 1, Value.int .i64 0] by kernel_rfl)) rfl ?_
      refine L_gyes rfl rfl ?_
      refine L_y (y_eqI (xs := [1, 0]) (ys := [1, 0]) Try.underlying36 (by kernel_rfl) (by kernel_rfl) fieldsPair rfl rfl rfl rfl) rfl ?_
      refine L_y ((by first | exact y_pickT rfl rfl | exact y_pickF rfl rfl)) rfl ?_
      refine L_y (y_move rfl) rfl ?_
      refine L_split 23 rfl (fun h23 => ?_) (fun h23 => ?_)
      ·
        refine L_gyes rfl rfl ?_
        refine L_y (y_move rfl) rfl ?_
        refine L_gyes rfl rfl ?_
        refine L_y (y_idx Try.underlying25 sz36 rfl rfl (S3.row 2 rfl) inferInstance (by omega)) rfl ?_
        refine L_gyes rfl rfl ?_
        refine L_y (y_ldp (f := pf) (fun _ => rfl) Try.underlying36 rfl sz36 rfl (S3.row 2 rfl) (by omega) (by rw [keep_works]; rfl : _ = some (2, 2))) rfl ?_
        refine L_gyes rfl rfl ?_
        refine L_y (y_build rfl (show _ = some #[Value.int .i64 2, Value.int .i64 2] by kernel_rfl)) rfl ?_
        refine L_gyes rfl rfl ?_
        refine L_y (y_eqI (xs := [2, 2]) (ys := [2, 2]) Try.underlying36 (by kernel_rfl) (by kernel_rfl) fieldsPair rfl rfl rfl rfl) rfl ?_
        refine L_y ((by first | exact y_pickT rfl rfl | exact y_pickF rfl rfl)) rfl ?_
        refine L_y (y_assign rfl) rfl ?_
        refine L_nil ?_
        refine hK3 _ _ ?_
        refine T_ret ?_
        repeat (first | with_reducible refine up_then ?_ | with_reducible refine up_in ?_)
        refine ret1 rfl rfl ?_
        exact ⟨_, rfl, S3.like0, rfl⟩
      ·
        exact absurd rfl h23
    ·
      exact absurd rfl h16
  ·
    exact absurd rfl h11


set_option maxRecDepth 100000 in
theorem diffs (A B : Option Addr) (n ca m cb : Nat) (la lb : List Int) (w0 : World) (ha : Rs w0 1 A n ca (iL la)) (hb : Rs w0 1 B m cb (iL lb)) :
    Calls Try.prog 3 #[.slice A n ca, .slice B m cb] w0 fun e w' => ∃ u, e = .returned u ∧ Like w0 w' ∧ u = .bool true := by
  refine enter1 (env := [(0, .slice A n ca), (1, .slice B m cb)]) [.slice A n ca, .slice B m cb] Try.func3 rfl Try.ntmps3 rfl rfl ?_
  have hla := lenI ha; have hlb := lenI hb; have S0 := St.start w0 noM
  refine T_seq fun K1 hK1 => ?_
  refine T_region ?_
  refine L_y (y_assign rfl) rfl ?_
  refine L_nil ?_
  refine hK1 _ _ ?_
  refine T_seq fun K2 hK2 => ?_
  refine T_seq fun K3 hK3 => ?_
  refine T_region ?_
  refine L_y (y_move rfl) rfl ?_
  refine L_y (y_move rfl) rfl ?_
  refine L_o (o_call Try.func7 rfl rfl (long A B n ca m cb w0) rfl rfl ?_)
  rintro e1 w1 ⟨v1, rfl, l1, rfl⟩
  refine ⟨_, rfl, ?_⟩
  have S1 := S0.like l1
  refine L_nil ?_
  refine hK3 _ _ ?_
  refine T_condB rfl (fun h9 => ?_) (fun h9 => ?_)
  ·
    refine T_seq fun K4 hK4 => ?_
    refine T_region ?_
    refine L_o (o_call Try.func8 rfl rfl (works w1) rfl rfl ?_)
    rintro e2 w2 ⟨v2, rfl, l2, rfl⟩
    refine ⟨_, rfl, ?_⟩
    have S2 := S1.like l2
    refine L_y (y_assign rfl) rfl ?_
    refine L_nil ?_
    refine hK4 _ _ ?_
    refine T_ret ?_
    repeat (first | with_reducible refine up_then ?_ | with_reducible refine up_in ?_)
    refine ret1 rfl rfl ?_
    exact ⟨_, rfl, S2.like0, rfl⟩
  ·
    have hl9 := of_decide_eq_false h9
    refine T_skip ?_
    refine hK2 _ _ ?_
    refine T_seq fun K5 hK5 => ?_
    refine T_region ?_
    refine L_y (y_move rfl) rfl ?_
    refine L_y (y_move rfl) rfl ?_
    refine L_o (o_call Try.func9 rfl rfl (fdiff A B n ca m cb la lb w1 (S1.rd ha) (S1.rd hb) (by omega) (by omega)) rfl rfl ?_)
    rintro e3 w3 ⟨v3, rfl, l3, AR, mR, cR, rfl, O3⟩
    refine ⟨_, rfl, ?_⟩
    have S3 := S1.adopt l3 O3
    refine L_y (y_move rfl) rfl ?_
    refine L_y (y_extract rfl rfl) rfl ?_
    refine L_y (y_extract rfl rfl) rfl ?_
    refine L_y (y_assign rfl) rfl ?_
    refine L_y (y_assign rfl) rfl ?_
    refine L_nil ?_
    refine hK5 _ _ ?_
    refine T_seq fun K6 hK6 => ?_
    refine T_region ?_
    refine L_y (y_move rfl) rfl ?_
    refine L_y (y_eql rfl rfl) rfl ?_
    refine L_y (y_move rfl) rfl ?_
    refine L_split 19 rfl (fun h19 => ?_) (fun h19 => ?_)
    ·
      refine L_gyes rfl rfl ?_
      refine L_y (y_move rfl) rfl ?_
      refine L_gyes rfl rfl ?_
      refine L_y (y_move rfl) rfl ?_
      refine L_gyes rfl rfl ?_
      refine L_y (y_move rfl) rfl ?_
      refine L_gyes rfl rfl ?_
      refine L_o (o_call Try.func11 rfl rfl (rdiff A B n ca m cb la lb w3 (S3.rd ha) (S3.rd hb) (by omega) (by omega)) rfl rfl ?_)
      rintro e5 w5 ⟨v5, rfl, l5, AQ, mQ, cQ, rfl, O5⟩
      refine ⟨_, rfl, ?_⟩
      have S5 := S3.adopt l5 O5
      refine L_gyes rfl rfl ?_
      refine L_o (o_call Try.func10 rfl rfl (rsame AR AQ mR cR mQ cQ (keepT la lb 0 0) w5 (S5.row 0 rfl) (S5.row 1 rfl)) rfl rfl ?_)
      rintro e6 w6 ⟨v6, rfl, l6, rfl⟩
      refine ⟨_, rfl, ?_⟩
      have S6 := S5.like l6
      refine L_y ((by first | exact y_pickT rfl rfl | exact y_pickF rfl rfl)) rfl ?_
      refine L_y (y_move rfl) rfl ?_
      refine L_gyes rfl rfl ?_
      refine L_o (o_call Try.func8 rfl rfl (works w6) rfl rfl ?_)
      rintro e7 w7 ⟨v7, rfl, l7, rfl⟩
      refine ⟨_, rfl, ?_⟩
      have S7 := S6.like l7
      refine L_y ((by first | exact y_pickT rfl rfl | exact y_pickF rfl rfl)) rfl ?_
      refine L_y (y_assign rfl) rfl ?_
      refine L_nil ?_
      refine hK6 _ _ ?_
      refine T_ret ?_
      repeat (first | with_reducible refine up_then ?_ | with_reducible refine up_in ?_)
      refine ret1 rfl rfl ?_
      exact ⟨_, rfl, S7.like0, rfl⟩
    ·
      exact absurd rfl h19


theorem ed_comm : ∀ (n : Nat) (x y : List Int), x.length + y.length = n → ed x y = ed y x := by
  intro n
  induction n using Nat.strongRecOn with
  | ind n ih =>
    intro x y hn
    cases x with
    | nil => rw [ed_nil, ed_nil_r]
    | cons a x =>
      cases y with
      | nil => rw [ed_nil, ed_nil_r]
      | cons b y =>
        simp only [List.length_cons] at hn
        by_cases e : a = b
        · subst e
          rw [ed_eq, ed_eq]
          exact ih _ (by omega) x y rfl
        · rw [ed_ne e, ed_ne (fun h => e h.symm), ih _ (by rw [← hn, List.length_cons]; omega) x (b :: y) rfl, ih _ (by rw [← hn, List.length_cons]; omega) (a :: x) y rfl, Nat.min_comm]
theorem rR_comm (la lb : List Int) : rR la lb 0 0 = rR lb la 0 0 := ed_comm _ _ _ rfl


set_option maxRecDepth 100000 in
theorem dists (A B : Option Addr) (n ca m cb : Nat) (la lb : List Int) (w0 : World) (ha : Rs w0 1 A n ca (iL la)) (hb : Rs w0 1 B m cb (iL lb)) :
    Calls Try.prog 4 #[.slice A n ca, .slice B m cb] w0 fun e w' => ∃ u, e = .returned u ∧ Like w0 w' ∧ u = .bool true := by
  refine enter1 (env := [(0, .slice A n ca), (1, .slice B m cb)]) [.slice A n ca, .slice B m cb] Try.func4 rfl Try.ntmps4 rfl rfl ?_
  have hla := lenI ha; have hlb := lenI hb; have S0 := St.start w0 noM
  refine T_seq fun K1 hK1 => ?_
  refine T_region ?_
  refine L_y (y_assign rfl) rfl ?_
  refine L_nil ?_
  refine hK1 _ _ ?_
  refine T_seq fun K2 hK2 => ?_
  refine T_seq fun K3 hK3 => ?_
  refine T_region ?_
  refine L_y (y_move rfl) rfl ?_
  refine L_y (y_move rfl) rfl ?_
  refine L_o (o_call Try.func7 rfl rfl (long A B n ca m cb w0) rfl rfl ?_)
  rintro e1 w1 ⟨v1, rfl, l1, rfl⟩
  refine ⟨_, rfl, ?_⟩
  have S1 := S0.like l1
  refine L_nil ?_
  refine hK3 _ _ ?_
  refine T_condB rfl (fun h11 => ?_) (fun h11 => ?_)
  ·
    refine T_seq fun K4 hK4 => ?_
    refine T_region ?_
    refine L_o (o_call Try.func8 rfl rfl (works w1) rfl rfl ?_)
    rintro e2 w2 ⟨v2, rfl, l2, rfl⟩
    refine ⟨_, rfl, ?_⟩
    have S2 := S1.like l2
    refine L_y (y_assign rfl) rfl ?_
    refine L_nil ?_
    refine hK4 _ _ ?_
    refine T_ret ?_
    repeat (first | with_reducible refine up_then ?_ | with_reducible refine up_in ?_)
    refine ret1 rfl rfl ?_
    exact ⟨_, rfl, S2.like0, rfl⟩
  ·
    have hl9 := of_decide_eq_false h11
    refine T_skip ?_
    refine hK2 _ _ ?_
    refine T_seq fun K5 hK5 => ?_
    refine T_region ?_
    refine L_y (y_move rfl) rfl ?_
    refine L_y (y_move rfl) rfl ?_
    refine L_o (o_call Try.func12 rfl rfl (fdist A B n ca m cb la lb w1 (S1.rd ha) (S1.rd hb) (by omega) (by omega)) rfl rfl ?_)
    rintro e3 w3 ⟨v3, rfl, l3, rfl⟩
    refine ⟨_, rfl, ?_⟩
    have S3 := S1.like l3
    refine L_y (y_move rfl) rfl ?_
    refine L_y (y_extract rfl rfl) rfl ?_
    refine L_y (y_extract rfl rfl) rfl ?_
    refine L_y (y_assign rfl) rfl ?_
    refine L_y (y_assign rfl) rfl ?_
    refine L_nil ?_
    refine hK5 _ _ ?_
    refine T_seq fun K6 hK6 => ?_
    refine T_region ?_
    refine L_y (y_move rfl) rfl ?_
    refine L_y (y_move rfl) rfl ?_
    refine L_o (o_call Try.func12 rfl rfl (fdist B A m cb n ca lb la w3 (S3.rd hb) (S3.rd ha) (by omega) (by omega)) rfl rfl ?_)
    rintro e4 w4 ⟨v4, rfl, l4, rfl⟩
    refine ⟨_, rfl, ?_⟩
    have S4 := S3.like l4
    refine L_y (y_move rfl) rfl ?_
    refine L_y (y_extract rfl rfl) rfl ?_
    refine L_y (y_extract rfl rfl) rfl ?_
    refine L_y (y_assign rfl) rfl ?_
    refine L_y (y_assign rfl) rfl ?_
    refine L_nil ?_
    refine hK6 _ _ ?_
    refine T_seq fun K7 hK7 => ?_
    refine T_region ?_
    refine L_y (y_move rfl) rfl ?_
    refine L_y (y_eql rfl rfl) rfl ?_
    refine L_y (y_move rfl) rfl ?_
    refine L_split 27 rfl (fun h27 => ?_) (fun h27 => ?_)
    ·
      refine L_gyes rfl rfl ?_
      refine L_y (y_move rfl) rfl ?_
      refine L_gyes rfl rfl ?_
      refine L_y (y_eql rfl rfl) rfl ?_
      refine L_y ((by first | exact y_pickT rfl rfl | exact y_pickF rfl rfl)) rfl ?_
      refine L_y (y_move rfl) rfl ?_
      refine L_split 31 rfl (fun h31 => ?_) (fun h31 => ?_)
      ·
        refine L_gyes rfl rfl ?_
        refine L_y (y_move rfl) rfl ?_
        refine L_gyes rfl rfl ?_
        refine L_y (y_move rfl) rfl ?_
        refine L_gyes rfl rfl ?_
        refine L_y (y_eql rfl rfl) rfl ?_
        refine L_y ((by first | exact y_pickT rfl rfl | exact y_pickF rfl rfl)) rfl ?_
        refine L_y (y_move rfl) rfl ?_
        refine L_split 36 rfl (fun h36 => ?_) (fun h36 => ?_)
        ·
          refine L_gyes rfl rfl ?_
          refine L_y (y_move rfl) rfl ?_
          refine L_gyes rfl rfl ?_
          refine L_y (y_move rfl) rfl ?_
          refine L_gyes rfl rfl ?_
          refine L_y (y_move rfl) rfl ?_
          refine L_gyes rfl rfl ?_
          refine L_o (o_call Try.func13 rfl rfl (rdist A B n ca m cb la lb w4 (S4.rd ha) (S4.rd hb) (by omega) (by omega)) rfl rfl ?_)
          rintro e8 w8 ⟨v8, rfl, l8, rfl⟩
          refine ⟨_, rfl, ?_⟩
          have S8 := S4.like l8
          refine L_gyes rfl rfl ?_
          refine L_y (y_eql rfl rfl) rfl ?_
          refine L_y ((by first | exact y_pickT rfl rfl | exact y_pickF rfl rfl)) rfl ?_
          refine L_y (y_move rfl) rfl ?_
          refine L_split 43 rfl (fun h43 => ?_) (fun h43 => ?_)
          ·
            refine L_gyes rfl rfl ?_
            refine L_o (o_call Try.func8 rfl rfl (works w8) rfl rfl ?_)
            rintro e10 w10 ⟨v10, rfl, l10, rfl⟩
            refine ⟨_, rfl, ?_⟩
            have S10 := S8.like l10
            refine L_y ((by first | exact y_pickT rfl rfl | exact y_pickF rfl rfl)) rfl ?_
            refine L_y (y_assign rfl) rfl ?_
            refine L_nil ?_
            refine hK7 _ _ ?_
            refine T_ret ?_
            repeat (first | with_reducible refine up_then ?_ | with_reducible refine up_in ?_)
            refine ret1 rfl rfl ?_
            exact ⟨_, rfl, S10.like0, rfl⟩
          ·
            exact absurd rfl h43
        ·
          exact absurd (by rw [rR_comm]) h36
      ·
        exact absurd rfl h31
    ·
      exact absurd rfl h27


theorem diffs_law (A B : Option Addr) (n ca m cb : Nat) (la lb : List Int) (w0 : World) (ha : Rs w0 1 A n ca (iL la)) (hb : Rs w0 1 B m cb (iL lb)) :
    Calls Try.prog 3 #[.slice A n ca, .slice B m cb] w0 fun e w' => e = .returned (.bool true) ∧ Below w0.heap.size w0 w' :=
  (diffs A B n ca m cb la lb w0 ha hb).mono fun e w' ⟨u, h1, h2, h3⟩ => by subst h3; exact ⟨h1, h2⟩


theorem dists_law (A B : Option Addr) (n ca m cb : Nat) (la lb : List Int) (w0 : World) (ha : Rs w0 1 A n ca (iL la)) (hb : Rs w0 1 B m cb (iL lb)) :
    Calls Try.prog 4 #[.slice A n ca, .slice B m cb] w0 fun e w' => e = .returned (.bool true) ∧ Below w0.heap.size w0 w' :=
  (dists A B n ca m cb la lb w0 ha hb).mono fun e w' ⟨u, h1, h2, h3⟩ => by subst h3; exact ⟨h1, h2⟩
end Go.Proofs.Ytgapdndbelnknaa
