/-
  Rising, below, Find.
-/
import Derived.Test.YtblbcmkhgjlpcaaN
import Derived.Test.YtblbcmkhgjlpcaaZs
import Derived.Test.YtblbcmkhgjlpcaaFa
import Derived.Test.YtblbcmkhgjlpcaaZi
namespace Go.Proofs.Ytblbcmkhgjlpcaa
open Go.RowKit Zk Zx
set_option linter.unusedVariables false
set_option linter.unusedSimpArgs false

instance : DecidableEq Id := fun a b => decidable_of_iff (a.l = b.l) ⟨Id.ext, fun h => by rw [h]⟩
def idf (x : Id) : List Value := bL x.l
theorem idf_len (x : Id) : (idf x).length = 32 := by simp [idf, x.h]
theorem ids_len (l : List Id) : (l.flatMap idf).length = l.length * 32 := by
  induction l with
  | nil => rfl
  | cons x l ih => rw [List.flatMap_cons, List.length_append, ih, idf_len, List.length_cons]; omega
theorem ids_n {w : World} {A : Option Addr} {n c : Nat} {l : List Id} (h : Rs w 32 A n c (l.flatMap idf)) : n = l.length := by
  have := h.len
  rw [ids_len] at this
  omega
theorem ids_one (l : List Id) : ∀ u ∈ l.flatMap idf, u.oneCell' = true := fun u hu => by
  obtain ⟨p, _, hp⟩ := List.mem_flatMap.1 hu
  exact bL_one _ u hp
theorem whole32 (x : Id) : ((bA x.l).toList.drop 0).take 32 = bL x.l ∧ (bL x.l).length = 32 := by
  have h : (bL x.l).length = 32 := by simp [x.h]
  exact ⟨by rw [List.drop_zero]; exact List.take_of_length_le (by show (bL x.l).length ≤ 32; omega), h⟩
theorem whole33 (x : Id) (n : Int) : ((pfA x.l n).toList.drop 0).take 33 = bL x.l ++ [Value.int .i64 n] ∧ (bL x.l ++ [Value.int .i64 n]).length = 33 := by
  have h : (bL x.l ++ [Value.int .i64 n]).length = 33 := by simp [x.h]
  exact ⟨by rw [List.drop_zero]; exact List.take_of_length_le (by show (bL x.l ++ [Value.int .i64 n]).length ≤ 33; omega), h⟩
theorem part33 (x : Id) (n : Int) : ((pfA x.l n).toList.drop 0).take 32 = bL x.l ∧ (bL x.l).length = 32 := by
  have h : (bL x.l).length = 32 := by simp [x.h]
  refine ⟨?_, h⟩
  show ((bL x.l ++ [Value.int .i64 n]).drop 0).take 32 = bL x.l
  rw [List.drop_zero, List.take_append_of_le_length (by omega)]
  exact List.take_of_length_le (by omega)
theorem cRight (z : Id) (n : Int) (w : World) : Calls Try.prog 16 #[.agg (pfA z.l n)] w fun e w' => ∃ u, e = .returned u ∧ Like w w' ∧ u = .bool (rightB z.l n) := (right_any z.l n w z.h).mono fun e w' ⟨h1, h2⟩ => ⟨_, h1, h2, rfl⟩
theorem cRRight (z : Id) (n : Int) (w : World) : Calls Try.prog 17 #[.agg (bA z.l), .int .i64 n] w fun e w' => ∃ u, e = .returned u ∧ Like w w' ∧ u = .bool (rightB z.l n) := (rright_any z.l n w z.h).mono fun e w' ⟨h1, h2⟩ => ⟨_, h1, h2, rfl⟩
theorem cFits (z : Id) (n : Int) (x : Id) (w : World) : Calls Try.prog 18 #[.agg (pfA z.l n), .agg (bA x.l)] w fun e w' => ∃ u, e = .returned u ∧ Like w w' ∧ u = .bool (fit z n x) := (fits_any z.l n x.l w z.h x.h).mono fun e w' ⟨h1, h2⟩ => ⟨_, h1, h2, rfl⟩
theorem cRFits (z : Id) (n : Int) (x : Id) (w : World) : Calls Try.prog 19 #[.agg (bA z.l), .int .i64 n, .agg (bA x.l)] w fun e w' => ∃ u, e = .returned u ∧ Like w w' ∧ u = .bool (fit z n x) := (rfits_any z.l n x.l w z.h x.h).mono fun e w' ⟨h1, h2⟩ => ⟨_, h1, h2, rfl⟩
theorem cCmp (a b : Id) (w : World) : Calls Try.prog 20 #[.agg (bA a.l), .agg (bA b.l)] w fun e w' => ∃ u, e = .returned u ∧ Like w w' ∧ u = .int .i64 (cmpL a.l b.l) := (compare_any a.l b.l w a.h b.h).mono fun e w' ⟨h1, h2⟩ => ⟨_, h1, h2, rfl⟩
theorem cBelow (a b : Id) (w : World) : Calls Try.prog 38 #[.agg (bA a.l), .agg (bA b.l)] w fun e w' => ∃ u, e = .returned u ∧ Like w w' ∧ u = .bool (lt a b) := (below_any a.l b.l w a.h b.h).mono fun e w' ⟨h1, h2⟩ => ⟨_, h1, h2, rfl⟩
theorem cmp_lt (a b : Id) : cmpL a.l b.l < 0 ↔ lt a b = true := by
  unfold cmpL lt
  by_cases h : belowL a.l b.l = true
  · simp [h]
  · rw [if_neg h]
    constructor
    · intro h2; split at h2 <;> omega
    · intro h2; exact (h h2).elim
theorem cmp_ge (a b : Id) : 0 ≤ cmpL a.l b.l ↔ lt a b = false := by
  have h := cmp_lt a b
  constructor
  · intro h1
    cases h2 : lt a b
    · rfl
    · have := h.2 h2; omega
  · intro h1
    apply Int.not_lt.1
    intro h2
    rw [h.1 h2] at h1
    cases h1
theorem eq_at {l : List Id} {n : Nat} {y x : Id} (hy : l[n]? = some y) : decide (y.l = x.l) = decide (l[n]? = some x) := by
  rw [hy]
  exact decide_eq_decide.2 ⟨fun h => by rw [Id.ext h], fun h => by rw [Option.some.inj h]⟩
theorem ne_at {l : List Id} {n : Nat} {x : Id} (h : l.length ≤ n) : false = decide (l[n]? = some x) := by
  rw [List.getElem?_eq_none h]
  rfl


set_option maxRecDepth 100000 in
theorem prising (A : Option Addr) (n c : Nat) (l : List Id) (w0 : World) (hl : Rs w0 32 A n c (l.flatMap idf)) :
    Calls Try.prog 31 #[.slice A n c] w0 fun e w' => ∃ u, e = .returned u ∧ Like w0 w' ∧ u = .bool (ris l) := by
  refine enter1 (env := [(0, .slice A n c)]) [.slice A n c] Try.func31 rfl Try.ntmps31 rfl rfl ?_
  have hn := ids_n hl; have hcap := hl.cap; have hmax := hl.max; have S0 := St.start w0 noM
  refine T_seq fun K1 hK1 => ?_
  refine T_region ?_
  refine L_y (y_assign rfl) rfl ?_
  refine L_nil ?_
  refine hK1 _ _ ?_
  refine T_seq fun K2 hK2 => ?_
  refine T_seq fun K3 hK3 => ?_
  refine T_region ?_
  refine L_y (y_assign rfl) rfl ?_
  refine L_nil ?_
  refine hK3 _ _ ?_
  refine T_block ?_
  refine T_loop1 [(0, _)] (fun (k : Nat) => [(3, .int .i64 ((k : Int) + 1))]) (fun (k : Nat) => n - k) (fun (k : Nat) (w : World) => ((k + 1 ≤ n ∨ (k = 0 ∧ n = 0)) ∧ ris l = ris (l.drop k)) ∧ St w0 noM [] w) 0 (Sub.cons rfl (by first | rfl | exact congrArg (Value.int _) (by omega)) (Sub.nil _)) (Sub.cons rfl rfl (Sub.nil _)) ?_ ?_
  ·
    exact ⟨⟨by omega, by rw [List.drop_zero]⟩, S0⟩
  ·
    intro k w1 hrel
    obtain ⟨⟨hk, hris⟩, S1⟩ := hrel
    refine T_seq fun K4 hK4 => ?_
    refine T_seq fun K5 hK5 => ?_
    refine T_region ?_
    refine L_y (y_move rfl) rfl ?_
    refine L_y (y_move rfl) rfl ?_
    refine L_y (y_len Try.underlying44 rfl) rfl ?_
    refine L_y (y_lss rfl rfl) rfl ?_
    refine L_nil ?_
    refine hK5 _ _ ?_
    refine T_cond rfl (fun h7 => ?_) (fun h7 => ?_)
    ·
      obtain ⟨x, hx⟩ : ∃ x, l[k]? = some x := ⟨_, List.getElem?_eq_getElem (by omega)⟩
      obtain ⟨y, hy⟩ : ∃ y, l[k + 1]? = some y := ⟨_, List.getElem?_eq_getElem (by omega)⟩
      refine T_skip ?_
      refine hK4 _ _ ?_
      refine T_seq fun K6 hK6 => ?_
      refine T_block ?_
      refine T_seq fun K7 hK7 => ?_
      refine T_tail 9 hmix (by kernel_rfl) fun w2 l2 K8 hK8 => ?_
      have S2 := S1.like l2
      refine HL_y (y_move rfl) rfl ?_
      refine HL_y (y_move rfl) rfl ?_
      refine HL_y (y_sub rfl rfl (i64w (by omega))) rfl ?_
      refine HL_y (y_idx Try.underlying44 sz23 rfl rfl (S2.rd hl) (Nt.mk (by omega) : Nt _ (k)) (by omega)) rfl ?_
      refine HL_y (y_ldp (f := idf) idf_len Try.underlying23 rfl sz23 rfl (S2.rd hl) (by omega) hx) rfl ?_
      refine HL_y (y_move rfl) rfl ?_
      refine HL_y (y_move rfl) rfl ?_
      refine HL_y (y_idx Try.underlying44 sz23 rfl rfl (S2.rd hl) (Nt.mk (by omega) : Nt _ (k + 1)) (by omega)) rfl ?_
      refine HL_y (y_ldp (f := idf) idf_len Try.underlying23 rfl sz23 rfl (S2.rd hl) (by omega) hy) rfl ?_
      refine HL_nil ?_
      refine hK8 _ ?_
      refine L_o (o_call Try.func20 rfl rfl (cCmp x y w2) rfl rfl ?_)
      rintro e3 w3 ⟨v3, rfl, l3, rfl⟩
      refine ⟨_, rfl, ?_⟩
      have S3 := S2.like l3
      refine L_y (y_geq rfl rfl) rfl ?_
      refine L_nil ?_
      refine hK7 _ _ ?_
      refine T_cond rfl (fun h20 => ?_) (fun h20 => ?_)
      ·
        have hlt := (cmp_ge x y).1 h20
        refine T_seq fun K9 hK9 => ?_
        refine T_region ?_
        refine L_y (y_assign rfl) rfl ?_
        refine L_nil ?_
        refine hK9 _ _ ?_
        refine T_ret ?_
        repeat (first | with_reducible refine up_then ?_ | with_reducible refine up_in ?_)
        refine ret1 rfl rfl ?_
        first | exact ⟨_, rfl, S3.like0, congrArg Value.bool (by rw [hris, ris_drop hx hy, hlt]; rfl)⟩ | exact ⟨_, rfl, S3.like0, congrArg Value.bool (by rw [hris, ris_short (by omega)])⟩
      ·
        have hlt := (cmp_lt x y).1 (by omega)
        refine T_skip ?_
        refine hK6 _ _ ?_
        refine T_region ?_
        refine L_y (y_move rfl) rfl ?_
        refine L_y (y_add rfl rfl (i64w (by omega))) rfl ?_
        refine L_y (y_assign rfl) rfl ?_
        refine L_nil ?_
        refine ⟨k + 1, by omega, ⟨⟨by omega, by rw [hris, ris_drop hx hy, hlt, Bool.true_and]⟩, S3⟩, ?_⟩
        exact (Sub.cons rfl (by first | rfl | exact congrArg (Value.int _) (by omega)) (Sub.cons rfl rfl (Sub.nil _)))
    ·
      refine T_exit ?_
      refine hK2 _ _ ?_
      refine T_seq fun K10 hK10 => ?_
      refine T_region ?_
      refine L_y (y_assign rfl) rfl ?_
      refine L_nil ?_
      refine hK10 _ _ ?_
      refine T_ret ?_
      repeat (first | with_reducible refine up_then ?_ | with_reducible refine up_in ?_)
      refine ret1 rfl rfl ?_
      first | exact ⟨_, rfl, S1.like0, congrArg Value.bool (by rw [hris, ris_drop hx hy, hlt]; rfl)⟩ | exact ⟨_, rfl, S1.like0, congrArg Value.bool (by rw [hris, ris_short (by omega)])⟩


set_option maxRecDepth 100000 in
theorem rrising (A : Option Addr) (n c : Nat) (l : List Id) (w0 : World) (hl : Rs w0 32 A n c (l.flatMap idf)) :
    Calls Try.prog 32 #[.slice A n c] w0 fun e w' => ∃ u, e = .returned u ∧ Like w0 w' ∧ u = .bool (ris l) := by
  refine enter1 (env := [(0, .slice A n c)]) [.slice A n c] Try.func32 rfl Try.ntmps32 rfl rfl ?_
  have hn := ids_n hl; have hcap := hl.cap; have hmax := hl.max; have S0 := St.start w0 noM
  refine T_seq fun K1 hK1 => ?_
  refine T_region ?_
  refine L_y (y_assign rfl) rfl ?_
  refine L_nil ?_
  refine hK1 _ _ ?_
  refine T_seq fun K2 hK2 => ?_
  refine T_seq fun K3 hK3 => ?_
  refine T_region ?_
  refine L_y (y_assign rfl) rfl ?_
  refine L_nil ?_
  refine hK3 _ _ ?_
  refine T_block ?_
  refine T_loop1 [(0, _)] (fun (k : Nat) => [(3, .int .i64 (k : Int))]) (fun (k : Nat) => n - k) (fun (k : Nat) (w : World) => ((k + 1 ≤ n ∨ (k = 0 ∧ n = 0)) ∧ ris l = ris (l.drop k)) ∧ St w0 noM [] w) 0 (Sub.cons rfl (by first | rfl | exact congrArg (Value.int _) (by omega)) (Sub.nil _)) (Sub.cons rfl rfl (Sub.nil _)) ?_ ?_
  ·
    exact ⟨⟨by omega, by rw [List.drop_zero]⟩, S0⟩
  ·
    intro k w1 hrel
    obtain ⟨⟨hk, hris⟩, S1⟩ := hrel
    refine T_seq fun K4 hK4 => ?_
    refine T_seq fun K5 hK5 => ?_
    refine T_region ?_
    refine L_y (y_move rfl) rfl ?_
    refine L_y (y_add rfl rfl (i64w (by omega))) rfl ?_
    refine L_y (y_move rfl) rfl ?_
    refine L_y (y_len Try.underlying44 rfl) rfl ?_
    refine L_y (y_lss rfl rfl) rfl ?_
    refine L_nil ?_
    refine hK5 _ _ ?_
    refine T_cond rfl (fun h8 => ?_) (fun h8 => ?_)
    ·
      obtain ⟨x, hx⟩ : ∃ x, l[k]? = some x := ⟨_, List.getElem?_eq_getElem (by omega)⟩
      obtain ⟨y, hy⟩ : ∃ y, l[k + 1]? = some y := ⟨_, List.getElem?_eq_getElem (by omega)⟩
      refine T_skip ?_
      refine hK4 _ _ ?_
      refine T_seq fun K6 hK6 => ?_
      refine T_block ?_
      refine T_seq fun K7 hK7 => ?_
      refine T_tail 9 hmix (by kernel_rfl) fun w2 l2 K8 hK8 => ?_
      have S2 := S1.like l2
      refine HL_y (y_move rfl) rfl ?_
      refine HL_y (y_move rfl) rfl ?_
      refine HL_y (y_idx Try.underlying44 sz23 rfl rfl (S2.rd hl) (Nt.mk (by omega) : Nt _ (k)) (by omega)) rfl ?_
      refine HL_y (y_ldp (f := idf) idf_len Try.underlying23 rfl sz23 rfl (S2.rd hl) (by omega) hx) rfl ?_
      refine HL_y (y_move rfl) rfl ?_
      refine HL_y (y_move rfl) rfl ?_
      refine HL_y (y_add rfl rfl (i64w (by omega))) rfl ?_
      refine HL_y (y_idx Try.underlying44 sz23 rfl rfl (S2.rd hl) (Nt.mk (by omega) : Nt _ (k + 1)) (by omega)) rfl ?_
      refine HL_y (y_ldp (f := idf) idf_len Try.underlying23 rfl sz23 rfl (S2.rd hl) (by omega) hy) rfl ?_
      refine HL_nil ?_
      refine hK8 _ ?_
      refine L_o (o_call Try.func38 rfl rfl (cBelow x y w2) rfl rfl ?_)
      rintro e3 w3 ⟨v3, rfl, l3, rfl⟩
      refine ⟨_, rfl, ?_⟩
      have S3 := S2.like l3
      refine L_y ((by first | exact y_notD rfl | exact y_not rfl)) rfl ?_
      refine L_nil ?_
      refine hK7 _ _ ?_
      refine T_condB rfl (fun h21 => ?_) (fun h21 => ?_)
      ·
        have hlt : lt x y = false := by simpa using h21
        refine T_seq fun K9 hK9 => ?_
        refine T_region ?_
        refine L_y (y_assign rfl) rfl ?_
        refine L_nil ?_
        refine hK9 _ _ ?_
        refine T_ret ?_
        repeat (first | with_reducible refine up_then ?_ | with_reducible refine up_in ?_)
        refine ret1 rfl rfl ?_
        first | exact ⟨_, rfl, S3.like0, congrArg Value.bool (by rw [hris, ris_drop hx hy, hlt]; rfl)⟩ | exact ⟨_, rfl, S3.like0, congrArg Value.bool (by rw [hris, ris_short (by omega)])⟩
      ·
        have hlt : lt x y = true := by simpa using h21
        refine T_skip ?_
        refine hK6 _ _ ?_
        refine T_region ?_
        refine L_y (y_move rfl) rfl ?_
        refine L_y (y_add rfl rfl (i64w (by omega))) rfl ?_
        refine L_y (y_assign rfl) rfl ?_
        refine L_nil ?_
        refine ⟨k + 1, by omega, ⟨⟨by omega, by rw [hris, ris_drop hx hy, hlt, Bool.true_and]⟩, S3⟩, ?_⟩
        exact (Sub.cons rfl (by first | rfl | exact congrArg (Value.int _) (by omega)) (Sub.cons rfl rfl (Sub.nil _)))
    ·
      refine T_exit ?_
      refine hK2 _ _ ?_
      refine T_seq fun K10 hK10 => ?_
      refine T_region ?_
      refine L_y (y_assign rfl) rfl ?_
      refine L_nil ?_
      refine hK10 _ _ ?_
      refine T_ret ?_
      repeat (first | with_reducible refine up_then ?_ | with_reducible refine up_in ?_)
      refine ret1 rfl rfl ?_
      first | exact ⟨_, rfl, S1.like0, congrArg Value.bool (by rw [hris, ris_drop hx hy, hlt]; rfl)⟩ | exact ⟨_, rfl, S1.like0, congrArg Value.bool (by rw [hris, ris_short (by omega)])⟩


set_option maxRecDepth 100000 in
theorem pbelow (A : Option Addr) (n c : Nat) (l : List Id) (x : Id) (w0 : World) (hl : Rs w0 32 A n c (l.flatMap idf)) (hr : ris l = true) :
    Calls Try.prog 39 #[.slice A n c, .agg (bA x.l)] w0 fun e w' => ∃ u, e = .returned u ∧ Like w0 w' ∧ ∃ k : Nat, u = .int .i64 (k : Int) ∧ posOk l x k := by
  refine enter1 (env := [(0, .slice A n c), (1, .agg (bA x.l))]) [.slice A n c, .agg (bA x.l)] Try.func39 rfl Try.ntmps39 rfl rfl ?_
  have hn := ids_n hl; have hcap := hl.cap; have hmax := hl.max; have S0 := St.start w0 noM
  refine T_seq fun K1 hK1 => ?_
  refine T_region ?_
  refine L_o (o_box rfl S0 rfl fun b1 w1 hb1 S1 => ?_)
  refine L_y (y_assign rfl) rfl ?_
  refine L_nil ?_
  refine hK1 _ _ ?_
  refine T_seq fun K2 hK2 => ?_
  refine T_region ?_
  refine L_y (y_move rfl) rfl ?_
  refine L_y (y_len Try.underlying44 rfl) rfl ?_
  refine L_y (y_assign rfl) rfl ?_
  refine L_y (y_assign rfl) rfl ?_
  refine L_nil ?_
  refine hK2 _ _ ?_
  refine T_seq fun K3 hK3 => ?_
  refine T_block ?_
  refine T_loop2 [(0, _), (3, _)] (fun (f : Nat) (t : Nat) => [(5, .int .i64 (f : Int)), (6, .int .i64 (t : Int))]) (fun (f : Nat) (t : Nat) => t - f) (fun (f : Nat) (t : Nat) (w : World) => (f ≤ t ∧ t ≤ n ∧ (∀ i z, i < f → l[i]? = some z → lt z x = true) ∧ ∀ i z, t ≤ i → l[i]? = some z → lt z x = false) ∧ St w0 noM [blk b1 23 (bA x.l)] w) 0 n (Sub.cons rfl (by first | rfl | exact congrArg (Value.int _) (by omega)) (Sub.cons rfl (by first | rfl | exact congrArg (Value.int _) (by omega)) (Sub.nil _))) (Sub.cons rfl rfl (Sub.cons rfl rfl (Sub.nil _))) ?_ ?_
  ·
    exact ⟨⟨Nat.zero_le _, Nat.le_refl _, fun i z hi => by omega, fun i z hi hz => by have := (List.getElem?_eq_some_iff.1 hz).1; omega⟩, S1⟩
  ·
    intro f t w2 hrel
    obtain ⟨⟨hft, htn, hlo, hhi⟩, S2⟩ := hrel
    refine T_seq fun K4 hK4 => ?_
    refine T_seq fun K5 hK5 => ?_
    refine T_region ?_
    refine L_y (y_move rfl) rfl ?_
    refine L_y (y_move rfl) rfl ?_
    refine L_y (y_lss rfl rfl) rfl ?_
    refine L_nil ?_
    refine hK5 _ _ ?_
    refine T_cond rfl (fun h12 => ?_) (fun h12 => ?_)
    ·
      refine T_skip ?_
      refine hK4 _ _ ?_
      refine T_block ?_
      refine T_seq fun K6 hK6 => ?_
      refine T_region ?_
      refine L_y (y_move rfl) rfl ?_
      refine L_y (y_move rfl) rfl ?_
      refine L_y (y_move rfl) rfl ?_
      refine L_y (y_sub rfl rfl (i64w (by omega))) rfl ?_
      refine L_y (y_quo rfl rfl (by omega) (quoI (by omega) (by omega))) rfl ?_
      refine L_y (y_add rfl rfl (i64w (by omega))) rfl ?_
      refine L_y (y_assign rfl) rfl ?_
      refine L_nil ?_
      refine hK6 _ _ ?_
      refine T_seq fun K7 hK7 => ?_
      obtain ⟨mid, hmid⟩ : ∃ mid : Nat, (f : Int) + ((t : Int) - f) / 2 = mid := ⟨((f : Int) + ((t : Int) - f) / 2).toNat, by omega⟩
      obtain ⟨y, hy⟩ : ∃ y, l[mid]? = some y := ⟨_, List.getElem?_eq_getElem (by omega)⟩
      refine T_tail 5 hmix (by kernel_rfl) fun w3 l3 K8 hK8 => ?_
      have S3 := S2.like l3
      refine HL_y (y_move rfl) rfl ?_
      refine HL_y (y_move rfl) rfl ?_
      refine HL_y (y_idx Try.underlying44 sz23 rfl rfl (S3.rd hl) (Nt.mk (by omega) : Nt _ (mid)) (by omega)) rfl ?_
      refine HL_y (y_ldp (f := idf) idf_len Try.underlying23 rfl sz23 rfl (S3.rd hl) (by omega) hy) rfl ?_
      refine HL_y (y_ldW Try.underlying23 rfl sz23 rfl (S3.blk 0 rfl) (whole32 x)) rfl ?_
      refine HL_nil ?_
      refine hK8 _ ?_
      refine L_o (o_call Try.func20 rfl rfl (cCmp y x w3) rfl rfl ?_)
      rintro e4 w4 ⟨v4, rfl, l4, rfl⟩
      refine ⟨_, rfl, ?_⟩
      have S4 := S3.like l4
      refine L_y (y_lss rfl rfl) rfl ?_
      refine L_nil ?_
      refine hK7 _ _ ?_
      refine T_cond rfl (fun h25 => ?_) (fun h25 => ?_)
      ·
        have hlt := (cmp_lt y x).1 h25
        refine T_region ?_
        refine L_y (y_move rfl) rfl ?_
        refine L_y (y_add rfl rfl (i64w (by omega))) rfl ?_
        refine L_y (y_assign rfl) rfl ?_
        refine L_nil ?_
        refine ⟨mid + 1, t, by omega, ⟨⟨by omega, by omega, fun i z hi hz => by rcases Nat.lt_or_ge i mid with h9 | h9; exact lt_trans _ _ _ (ris_at hr hz hy h9) hlt; (have e9 : i = mid := by omega); subst e9; rw [hy] at hz; cases hz; exact hlt, hhi⟩, S4⟩, ?_⟩
        exact (Sub.cons rfl (by first | rfl | exact congrArg (Value.int _) (by omega)) (Sub.cons rfl (by first | rfl | exact congrArg (Value.int _) (by omega)) (Sub.cons rfl rfl (Sub.cons rfl rfl (Sub.nil _)))))
      ·
        have hlt := (cmp_ge y x).1 (by omega)
        refine T_region ?_
        refine L_y (y_move rfl) rfl ?_
        refine L_y (y_assign rfl) rfl ?_
        refine L_nil ?_
        refine ⟨f, mid, by omega, ⟨⟨by omega, by omega, hlo, fun i z hi hz => by rcases Nat.lt_or_ge mid i with h9 | h9; (cases h8 : lt z x; rfl; (have h7 := lt_trans _ _ _ (ris_at hr hy hz h9) h8); rw [hlt] at h7; cases h7); (have e9 : i = mid := by omega); subst e9; rw [hy] at hz; cases hz; exact hlt⟩, S4⟩, ?_⟩
        exact (Sub.cons rfl (by first | rfl | exact congrArg (Value.int _) (by omega)) (Sub.cons rfl (by first | rfl | exact congrArg (Value.int _) (by omega)) (Sub.cons rfl rfl (Sub.cons rfl rfl (Sub.nil _)))))
    ·
      refine T_exit ?_
      refine hK3 _ _ ?_
      refine T_seq fun K9 hK9 => ?_
      refine T_region ?_
      refine L_y (y_move rfl) rfl ?_
      refine L_y (y_assign rfl) rfl ?_
      refine L_nil ?_
      refine hK9 _ _ ?_
      refine T_ret ?_
      repeat (first | with_reducible refine up_then ?_ | with_reducible refine up_in ?_)
      refine ret1 rfl rfl ?_
      have e9 : t = f := by omega
      exact ⟨_, rfl, S2.like0, f, rfl, posOk.of hr (by omega) (fun i z hi hz => hlo i z hi hz) (fun z hz => hhi f z (by omega) hz)⟩


def findOk (l : List Id) (x : Id) (u : Value) : Prop := (ris l = false ∧ u = .tuple #[.int .i64 0, .bool false]) ∨ (ris l = true ∧ ∃ k : Nat, posOk l x k ∧ u = .tuple #[.int .i64 (k : Int), .bool (decide (l[k]? = some x))])


set_option maxRecDepth 100000 in
theorem pfind (A : Option Addr) (n c : Nat) (l : List Id) (x : Id) (w0 : World) (hl : Rs w0 32 A n c (l.flatMap idf)) :
    Calls Try.prog 28 #[.slice A n c, .agg (bA x.l)] w0 fun e w' => ∃ u, e = .returned u ∧ Like w0 w' ∧ findOk l x u := by
  refine enter1 (env := [(0, .slice A n c), (1, .agg (bA x.l))]) [.slice A n c, .agg (bA x.l)] Try.func28 rfl Try.ntmps28 rfl rfl ?_
  have hn := ids_n hl; have hcap := hl.cap; have hmax := hl.max; have S0 := St.start w0 noM
  refine T_seq fun K1 hK1 => ?_
  refine T_region ?_
  refine L_o (o_box rfl S0 rfl fun b1 w1 hb1 S1 => ?_)
  refine L_y (y_assign rfl) rfl ?_
  refine L_y (y_assign rfl) rfl ?_
  refine L_nil ?_
  refine hK1 _ _ ?_
  refine T_seq fun K2 hK2 => ?_
  refine T_seq fun K3 hK3 => ?_
  refine T_region ?_
  refine L_y (y_move rfl) rfl ?_
  refine L_o (o_call Try.func31 rfl rfl (prising A n c l w1 (S1.rd hl)) rfl rfl ?_)
  rintro e2 w2 ⟨v2, rfl, l2, rfl⟩
  refine ⟨_, rfl, ?_⟩
  have S2 := S1.like l2
  refine L_y ((by first | exact y_notD rfl | exact y_not rfl)) rfl ?_
  refine L_nil ?_
  refine hK3 _ _ ?_
  refine T_condB rfl (fun h9 => ?_) (fun h9 => ?_)
  ·
    have hr : ris l = false := by simpa using h9
    refine T_seq fun K4 hK4 => ?_
    refine T_region ?_
    refine L_y (y_assign rfl) rfl ?_
    refine L_y (y_assign rfl) rfl ?_
    refine L_nil ?_
    refine hK4 _ _ ?_
    refine T_ret ?_
    repeat (first | with_reducible refine up_then ?_ | with_reducible refine up_in ?_)
    refine ret2 rfl rfl rfl ?_
    first | exact ⟨_, rfl, S2.like0, .inl ⟨hr, rfl⟩⟩ | exact ⟨_, rfl, S2.like0, .inr ⟨hr, k, hk, by rw [eq_at hy]⟩⟩ | exact ⟨_, rfl, S2.like0, .inr ⟨hr, k, hk, by rw [← ne_at (by omega)]⟩⟩
  ·
    have hr : ris l = true := by simpa using h9
    refine T_skip ?_
    refine hK2 _ _ ?_
    refine T_seq fun K5 hK5 => ?_
    refine T_region ?_
    refine L_y (y_move rfl) rfl ?_
    refine L_y (y_ldW Try.underlying23 rfl sz23 rfl (S2.blk 0 rfl) (whole32 x)) rfl ?_
    refine L_o (o_call Try.func39 rfl rfl (pbelow A n c l x w2 (S2.rd hl) hr) rfl rfl ?_)
    rintro e3 w3 ⟨v3, rfl, l3, k, rfl, hk⟩
    refine ⟨_, rfl, ?_⟩
    have S3 := S2.like l3
    have hkn := hk.1
    refine L_y (y_assign rfl) rfl ?_
    refine L_nil ?_
    refine hK5 _ _ ?_
    refine T_seq fun K6 hK6 => ?_
    refine T_drawnL [(0, true), (1, true), (2, true), (3, true), (4, true), (5, true), (6, true), (7, true), (8, true), (9, true), (10, true), (11, true), (12, true), (13, true), (14, true)] hmix (by kernel_rfl) fun w4 l4 => ?_
    have S4 := S3.like l4
    refine DL_y rfl (y_move rfl) rfl ?_
    refine DL_y rfl (y_move rfl) rfl ?_
    refine DL_y rfl (y_move rfl) rfl ?_
    refine DL_y rfl (y_len Try.underlying44 rfl) rfl ?_
    refine DL_y rfl (y_lss rfl rfl) rfl ?_
    refine DL_y rfl (y_move rfl) rfl ?_
    refine DL_split 18 rfl (fun h18 => ?_) (fun h18 => ?_)
    ·
      obtain ⟨y, hy⟩ : ∃ y, l[k]? = some y := ⟨_, List.getElem?_eq_getElem (by omega)⟩
      refine DL_gyes rfl rfl rfl (y_move rfl) rfl ?_
      refine DL_gyes rfl rfl rfl (y_move rfl) rfl ?_
      refine DL_gyes rfl rfl rfl (y_idx Try.underlying44 sz23 rfl rfl (S4.rd hl) (Nt.mk (by omega) : Nt _ (k)) (by omega)) rfl ?_
      refine DL_gyes rfl rfl rfl (y_ldp (f := idf) idf_len Try.underlying23 rfl sz23 rfl (S4.rd hl) (by omega) hy) rfl ?_
      refine DL_gyes rfl rfl rfl (y_ldW Try.underlying23 rfl sz23 rfl (S4.blk 0 rfl) (whole32 x)) rfl ?_
      refine DL_gyes rfl rfl rfl (y_eqB Try.underlying23 Try.underlying5 sz5 (by kernel_rfl) rfl rfl y.h x.h) rfl ?_
      refine DL_y rfl ((by first | exact y_pickT rfl rfl | exact y_pickF rfl rfl)) rfl ?_
      refine DL_y rfl (y_assign rfl) rfl ?_
      refine DL_y rfl (y_assign rfl) rfl ?_
      refine DL_nil ?_
      refine hK6 _ _ ?_
      refine T_ret ?_
      repeat (first | with_reducible refine up_then ?_ | with_reducible refine up_in ?_)
      refine ret2 rfl rfl rfl ?_
      first | exact ⟨_, rfl, S4.like0, .inl ⟨hr, rfl⟩⟩ | exact ⟨_, rfl, S4.like0, .inr ⟨hr, k, hk, by rw [eq_at hy]⟩⟩ | exact ⟨_, rfl, S4.like0, .inr ⟨hr, k, hk, by rw [← ne_at (by omega)]⟩⟩
    ·
      refine DL_gno rfl rfl rfl rfl ?_
      refine DL_gno rfl rfl rfl rfl ?_
      refine DL_gno rfl rfl rfl rfl ?_
      refine DL_gno rfl rfl rfl rfl ?_
      refine DL_gno rfl rfl rfl rfl ?_
      refine DL_gno rfl rfl rfl rfl ?_
      refine DL_y rfl ((by first | exact y_pickT rfl rfl | exact y_pickF rfl rfl)) rfl ?_
      refine DL_y rfl (y_assign rfl) rfl ?_
      refine DL_y rfl (y_assign rfl) rfl ?_
      refine DL_nil ?_
      refine hK6 _ _ ?_
      refine T_ret ?_
      repeat (first | with_reducible refine up_then ?_ | with_reducible refine up_in ?_)
      refine ret2 rfl rfl rfl ?_
      first | exact ⟨_, rfl, S4.like0, .inl ⟨hr, rfl⟩⟩ | exact ⟨_, rfl, S4.like0, .inr ⟨hr, k, hk, by rw [eq_at hy]⟩⟩ | exact ⟨_, rfl, S4.like0, .inr ⟨hr, k, hk, by rw [← ne_at (by omega)]⟩⟩


set_option maxRecDepth 100000 in
theorem rfind (A : Option Addr) (n c : Nat) (l : List Id) (x : Id) (w0 : World) (hl : Rs w0 32 A n c (l.flatMap idf)) :
    Calls Try.prog 29 #[.slice A n c, .agg (bA x.l)] w0 fun e w' => ∃ u, e = .returned u ∧ Like w0 w' ∧ findOk l x u := by
  refine enter1 (env := [(0, .slice A n c), (1, .agg (bA x.l))]) [.slice A n c, .agg (bA x.l)] Try.func29 rfl Try.ntmps29 rfl rfl ?_
  have hn := ids_n hl; have hcap := hl.cap; have hmax := hl.max; have S0 := St.start w0 noM
  refine T_seq fun K1 hK1 => ?_
  refine T_region ?_
  refine L_o (o_box rfl S0 rfl fun b1 w1 hb1 S1 => ?_)
  refine L_y (y_assign rfl) rfl ?_
  refine L_y (y_assign rfl) rfl ?_
  refine L_nil ?_
  refine hK1 _ _ ?_
  refine T_seq fun K2 hK2 => ?_
  refine T_seq fun K3 hK3 => ?_
  refine T_region ?_
  refine L_y (y_move rfl) rfl ?_
  refine L_o (o_call Try.func32 rfl rfl (rrising A n c l w1 (S1.rd hl)) rfl rfl ?_)
  rintro e2 w2 ⟨v2, rfl, l2, rfl⟩
  refine ⟨_, rfl, ?_⟩
  have S2 := S1.like l2
  refine L_y ((by first | exact y_notD rfl | exact y_not rfl)) rfl ?_
  refine L_nil ?_
  refine hK3 _ _ ?_
  refine T_condB rfl (fun h9 => ?_) (fun h9 => ?_)
  ·
    have hr : ris l = false := by simpa using h9
    refine T_seq fun K4 hK4 => ?_
    refine T_region ?_
    refine L_y (y_assign rfl) rfl ?_
    refine L_y (y_assign rfl) rfl ?_
    refine L_nil ?_
    refine hK4 _ _ ?_
    refine T_ret ?_
    repeat (first | with_reducible refine up_then ?_ | with_reducible refine up_in ?_)
    refine ret2 rfl rfl rfl ?_
    first | exact ⟨_, rfl, S2.like0, .inl ⟨hr, rfl⟩⟩ | exact ⟨_, rfl, S2.like0, .inr ⟨hr, k, posOk.of hr (by omega) hlo (fun z hz => by rw [hy] at hz; cases hz; exact hlt), by rw [eq_at hy]⟩⟩ | exact ⟨_, rfl, S2.like0, .inr ⟨hr, n, posOk.of hr (by omega) (fun i z hi hz => hlo i z (by omega) hz) (fun z hz => by have := (List.getElem?_eq_some_iff.1 hz).1; omega), by rw [← ne_at (by omega)]⟩⟩
  ·
    have hr : ris l = true := by simpa using h9
    refine T_skip ?_
    refine hK2 _ _ ?_
    refine T_seq fun K5 hK5 => ?_
    refine T_seq fun K6 hK6 => ?_
    refine T_region ?_
    refine L_y (y_assign rfl) rfl ?_
    refine L_nil ?_
    refine hK6 _ _ ?_
    refine T_block ?_
    refine T_loop1 [(0, _), (3, _)] (fun (k : Nat) => [(6, .int .i64 (k : Int))]) (fun (k : Nat) => n - k) (fun (k : Nat) (w : World) => (k ≤ n ∧ ∀ i z, i < k → l[i]? = some z → lt z x = true) ∧ St w0 noM [blk b1 23 (bA x.l)] w) 0 (Sub.cons rfl (by first | rfl | exact congrArg (Value.int _) (by omega)) (Sub.nil _)) (Sub.cons rfl rfl (Sub.cons rfl rfl (Sub.nil _))) ?_ ?_
    ·
      exact ⟨⟨Nat.zero_le _, fun i z hi => by omega⟩, S2⟩
    ·
      intro k w3 hrel
      obtain ⟨⟨hk, hlo⟩, S3⟩ := hrel
      refine T_seq fun K7 hK7 => ?_
      refine T_seq fun K8 hK8 => ?_
      refine T_region ?_
      refine L_y (y_move rfl) rfl ?_
      refine L_y (y_move rfl) rfl ?_
      refine L_y (y_len Try.underlying44 rfl) rfl ?_
      refine L_y (y_lss rfl rfl) rfl ?_
      refine L_nil ?_
      refine hK8 _ _ ?_
      refine T_cond rfl (fun h13 => ?_) (fun h13 => ?_)
      ·
        obtain ⟨y, hy⟩ : ∃ y, l[k]? = some y := ⟨_, List.getElem?_eq_getElem (by omega)⟩
        refine T_skip ?_
        refine hK7 _ _ ?_
        refine T_seq fun K9 hK9 => ?_
        refine T_block ?_
        refine T_seq fun K10 hK10 => ?_
        refine T_tail 5 hmix (by kernel_rfl) fun w4 l4 K11 hK11 => ?_
        have S4 := S3.like l4
        refine HL_y (y_move rfl) rfl ?_
        refine HL_y (y_move rfl) rfl ?_
        refine HL_y (y_idx Try.underlying44 sz23 rfl rfl (S4.rd hl) (Nt.mk (by omega) : Nt _ (k)) (by omega)) rfl ?_
        refine HL_y (y_ldp (f := idf) idf_len Try.underlying23 rfl sz23 rfl (S4.rd hl) (by omega) hy) rfl ?_
        refine HL_y (y_ldW Try.underlying23 rfl sz23 rfl (S4.blk 0 rfl) (whole32 x)) rfl ?_
        refine HL_nil ?_
        refine hK11 _ ?_
        refine L_o (o_call Try.func38 rfl rfl (cBelow y x w4) rfl rfl ?_)
        rintro e5 w5 ⟨v5, rfl, l5, rfl⟩
        refine ⟨_, rfl, ?_⟩
        have S5 := S4.like l5
        refine L_y ((by first | exact y_notD rfl | exact y_not rfl)) rfl ?_
        refine L_nil ?_
        refine hK10 _ _ ?_
        refine T_condB rfl (fun h22 => ?_) (fun h22 => ?_)
        ·
          have hlt : lt y x = false := by simpa using h22
          refine T_seq fun K12 hK12 => ?_
          refine T_drawnL [(0, true), (1, true), (2, true), (3, true), (4, true), (5, true), (6, true), (7, true), (8, true)] hmix (by kernel_rfl) fun w6 l6 => ?_
          have S6 := S5.like l6
          refine DL_y rfl (y_move rfl) rfl ?_
          refine DL_y rfl (y_move rfl) rfl ?_
          refine DL_y rfl (y_move rfl) rfl ?_
          refine DL_y rfl (y_idx Try.underlying44 sz23 rfl rfl (S6.rd hl) (Nt.mk (by omega) : Nt _ (k)) (by omega)) rfl ?_
          refine DL_y rfl (y_ldp (f := idf) idf_len Try.underlying23 rfl sz23 rfl (S6.rd hl) (by omega) hy) rfl ?_
          refine DL_y rfl (y_ldW Try.underlying23 rfl sz23 rfl (S6.blk 0 rfl) (whole32 x)) rfl ?_
          refine DL_y rfl (y_eqB Try.underlying23 Try.underlying5 sz5 (by kernel_rfl) rfl rfl y.h x.h) rfl ?_
          refine DL_y rfl (y_assign rfl) rfl ?_
          refine DL_y rfl (y_assign rfl) rfl ?_
          refine DL_nil ?_
          refine hK12 _ _ ?_
          refine T_ret ?_
          repeat (first | with_reducible refine up_then ?_ | with_reducible refine up_in ?_)
          refine ret2 rfl rfl rfl ?_
          first | exact ⟨_, rfl, S6.like0, .inl ⟨hr, rfl⟩⟩ | exact ⟨_, rfl, S6.like0, .inr ⟨hr, k, posOk.of hr (by omega) hlo (fun z hz => by rw [hy] at hz; cases hz; exact hlt), by rw [eq_at hy]⟩⟩ | exact ⟨_, rfl, S6.like0, .inr ⟨hr, n, posOk.of hr (by omega) (fun i z hi hz => hlo i z (by omega) hz) (fun z hz => by have := (List.getElem?_eq_some_iff.1 hz).1; omega), by rw [← ne_at (by omega)]⟩⟩
        ·
          have hlt : lt y x = true := by simpa using h22
          refine T_skip ?_
          refine hK9 _ _ ?_
          refine T_region ?_
          refine L_y (y_move rfl) rfl ?_
          refine L_y (y_add rfl rfl (i64w (by omega))) rfl ?_
          refine L_y (y_assign rfl) rfl ?_
          refine L_nil ?_
          refine ⟨k + 1, by omega, ⟨⟨by omega, fun i z hi hz => by rcases Nat.lt_or_ge i k with h9 | h9; exact hlo i z h9 hz; (have e9 : i = k := by omega); subst e9; rw [hy] at hz; cases hz; exact hlt⟩, S5⟩, ?_⟩
          exact (Sub.cons rfl (by first | rfl | exact congrArg (Value.int _) (by omega)) (Sub.cons rfl rfl (Sub.cons rfl rfl (Sub.nil _))))
      ·
        refine T_exit ?_
        refine hK5 _ _ ?_
        refine T_seq fun K13 hK13 => ?_
        refine T_region ?_
        refine L_y (y_move rfl) rfl ?_
        refine L_y (y_len Try.underlying44 rfl) rfl ?_
        refine L_y (y_assign rfl) rfl ?_
        refine L_y (y_assign rfl) rfl ?_
        refine L_nil ?_
        refine hK13 _ _ ?_
        refine T_ret ?_
        repeat (first | with_reducible refine up_then ?_ | with_reducible refine up_in ?_)
        refine ret2 rfl rfl rfl ?_
        first | exact ⟨_, rfl, S3.like0, .inl ⟨hr, rfl⟩⟩ | exact ⟨_, rfl, S3.like0, .inr ⟨hr, k, posOk.of hr (by omega) hlo (fun z hz => by rw [hy] at hz; cases hz; exact hlt), by rw [eq_at hy]⟩⟩ | exact ⟨_, rfl, S3.like0, .inr ⟨hr, n, posOk.of hr (by omega) (fun i z hi hz => hlo i z (by omega) hz) (fun z hz => by have := (List.getElem?_eq_some_iff.1 hz).1; omega), by rw [← ne_at (by omega)]⟩⟩
end Go.Proofs.Ytblbcmkhgjlpcaa
