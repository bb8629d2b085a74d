/-
  Short of the document.
-/
import Derived.Test.YtblbcmkhgjlpcaaQ
namespace Go.Proofs.Ytblbcmkhgjlpcaa
open Go.RowKit Zk Zx
set_option linter.unusedVariables false
set_option linter.unusedSimpArgs false

theorem cDigits (z : Id) (w : World) : Calls Try.prog 35 #[.agg (bA z.l)] w fun e w' => ∃ u, e = .returned u ∧ Like w w' ∧ ∃ A c, u = .slice A 64 c ∧ w'.ownsRow w.heap.size 3 1 (.slice A 64 c) 64 (iL (digL z.l)) :=
  (digits_any z.l w z.h).mono fun e w' ⟨A, c, h1, h2, h3⟩ => ⟨_, h1, h3, A, c, rfl, h2⟩
theorem dig_at (z : Id) (k : Nat) (h : k < 64) : (iL (digL z.l))[k]? = some (.int .i64 (nib z k : Int)) := iL_get _ _ _ (digL_nib z.l k (by rw [z.h]; omega))
theorem alB_take {l : List Id} {x : Id} {n k : Nat} {y : Id} (hy : l[k]? = some y) : alB (l.take (k + 1)) x n = (alB (l.take k) x n && !(decide (y.l ≠ x.l) && agB n y x)) := by
  unfold alB
  rw [List.take_add_one, hy, List.all_append]
  simp
theorem nat_dec (a b : Nat) : decide ((a : Int) = (b : Int)) = decide (a = b) := decide_eq_decide.2 (by omega)
theorem sm_end {D : Bool} {j q : Nat} {y x : Id} (h : (D && agB j y x) = false) (hq : j ≤ q) : (D && agB q y x) = false := by
  cases D
  · rfl
  · rw [Bool.true_and] at h ⊢; exact agB_mono hq h
theorem tells_first {l : List Id} {x : Id} {least : Int} {n : Nat} (hn : max least 0 ≤ n) (h64 : n ≤ 64) (h : ∀ m : Nat, max least 0 ≤ m → m < n → alB l x m = false) (ha : alB l x n = true) : tells l x least n := by
  refine ⟨by unfold n0F; omega, h64, ha, ?_⟩
  by_cases e : (n : Int) = n0F least
  · exact .inl e
  · exact .inr (h (n - 1) (by unfold n0F at e; omega) (by unfold n0F at e; omega))
theorem tells_none {l : List Id} {x : Id} {least : Int} (h : ∀ m : Nat, max least 0 ≤ m → m < 64 → alB l x m = false) : tells l x least 64 := by
  refine ⟨by unfold n0F; omega, Nat.le_refl _, alB_64 l x, ?_⟩
  by_cases e : (64 : Int) = n0F least
  · exact .inl e
  · exact .inr (h 63 (by unfold n0F at e; omega) (by omega))


set_option maxRecDepth 100000 in
theorem rshortN (A : Option Addr) (n c : Nat) (l : List Id) (x : Id) (least : Int) (w0 : World) (hl : Rs w0 32 A n c (l.flatMap idf)) (hr : ris l = false) :
    Calls Try.prog 26 #[.slice A n c, .agg (bA x.l), .int .i64 least] w0 fun e w' => ∃ u, e = .returned u ∧ Like w0 w' ∧ shortOk l x least u := by
  refine enter1 (env := [(0, .slice A n c), (1, .agg (bA x.l)), (2, .int .i64 least)]) [.slice A n c, .agg (bA x.l), .int .i64 least] Try.func26 rfl Try.ntmps26 rfl rfl ?_
  have hn := ids_n hl; have hcap := hl.cap; have hmax := hl.max; have S0 := St.start w0 noM
  refine T_seq fun K1 hK1 => ?_
  refine T_region ?_
  refine L_o (o_box rfl S0 rfl fun b1 w1 hb1 S1 => ?_)
  refine L_y (y_assign rfl) rfl ?_
  refine L_nil ?_
  refine hK1 _ _ ?_
  refine T_seq fun K2 hK2 => ?_
  refine T_region ?_
  refine L_y (y_move rfl) rfl ?_
  refine L_y (y_ldW Try.underlying23 rfl sz23 rfl (S1.blk 0 rfl) (whole32 x)) rfl ?_
  refine L_o (o_call Try.func29 rfl rfl (rfindNo A n c l x w1 (S1.rd hl) hr) rfl rfl ?_)
  rintro e2 w2 ⟨v2, rfl, l2, rfl⟩
  refine ⟨_, rfl, ?_⟩
  have S2 := S1.like l2
  refine L_y (y_move rfl) rfl ?_
  refine L_y (y_extract rfl rfl) rfl ?_
  refine L_y (y_extract rfl rfl) rfl ?_
  refine L_y (y_assign rfl) rfl ?_
  refine L_y (y_assign rfl) rfl ?_
  refine L_nil ?_
  refine hK2 _ _ ?_
  refine T_seq fun K3 hK3 => ?_
  refine T_seq fun K4 hK4 => ?_
  refine T_region ?_
  refine L_y (y_move rfl) rfl ?_
  refine L_y ((by first | exact y_notD rfl | exact y_not rfl)) rfl ?_
  refine L_nil ?_
  refine hK4 _ _ ?_
  refine T_true rfl ?_
  refine T_seq fun K5 hK5 => ?_
  refine T_region ?_
  refine L_y (y_assign rfl) rfl ?_
  refine L_nil ?_
  refine hK5 _ _ ?_
  refine T_ret ?_
  repeat (first | with_reducible refine up_then ?_ | with_reducible refine up_in ?_)
  refine ret1 rfl rfl ?_
  exact ⟨_, rfl, S2.like0, .inl ⟨hr, rfl⟩⟩


set_option maxRecDepth 100000 in
theorem rshortY (A : Option Addr) (n c : Nat) (l : List Id) (x : Id) (least : Int) (k : Nat) (w0 : World) (hl : Rs w0 32 A n c (l.flatMap idf)) (hr : ris l = true) (hk : posOk l x k) :
    Calls Try.prog 26 #[.slice A n c, .agg (bA x.l), .int .i64 least] w0 fun e w' => ∃ u, e = .returned u ∧ Like w0 w' ∧ shortOk l x least u := by
  refine enter1 (env := [(0, .slice A n c), (1, .agg (bA x.l)), (2, .int .i64 least)]) [.slice A n c, .agg (bA x.l), .int .i64 least] Try.func26 rfl Try.ntmps26 rfl rfl ?_
  have hkn := hk.1; have hn := ids_n hl; have hcap := hl.cap; have hmax := hl.max; have S0 := St.start w0 noM
  refine T_seq fun K1 hK1 => ?_
  refine T_region ?_
  refine L_o (o_box rfl S0 rfl fun b1 w1 hb1 S1 => ?_)
  refine L_y (y_assign rfl) rfl ?_
  refine L_nil ?_
  refine hK1 _ _ ?_
  refine T_seq fun K2 hK2 => ?_
  refine T_region ?_
  refine L_y (y_move rfl) rfl ?_
  refine L_y (y_ldW Try.underlying23 rfl sz23 rfl (S1.blk 0 rfl) (whole32 x)) rfl ?_
  refine L_o (o_call Try.func29 rfl rfl (rfindYes A n c l x k w1 (S1.rd hl) hr hk) rfl rfl ?_)
  rintro e2 w2 ⟨v2, rfl, l2, rfl⟩
  refine ⟨_, rfl, ?_⟩
  have S2 := S1.like l2
  refine L_y (y_move rfl) rfl ?_
  refine L_y (y_extract rfl rfl) rfl ?_
  refine L_y (y_extract rfl rfl) rfl ?_
  refine L_y (y_assign rfl) rfl ?_
  refine L_y (y_assign rfl) rfl ?_
  refine L_nil ?_
  refine hK2 _ _ ?_
  refine T_seq fun K3 hK3 => ?_
  refine T_seq fun K4 hK4 => ?_
  refine T_region ?_
  refine L_y (y_move rfl) rfl ?_
  refine L_y ((by first | exact y_notD rfl | exact y_not rfl)) rfl ?_
  refine L_nil ?_
  refine hK4 _ _ ?_
  refine T_condB rfl (fun h23 => ?_) (fun h23 => ?_)
  ·
    refine T_seq fun K5 hK5 => ?_
    refine T_region ?_
    refine L_y (y_assign rfl) rfl ?_
    refine L_nil ?_
    refine hK5 _ _ ?_
    refine T_ret ?_
    repeat (first | with_reducible refine up_then ?_ | with_reducible refine up_in ?_)
    refine ret1 rfl rfl ?_
    exact ⟨_, rfl, S2.like0, .inr ⟨hr, k, hk, .inl ⟨by simpa using h23, rfl⟩⟩⟩
  ·
    have hxk : l[k]? = some x := by simpa using h23
    have hkl := (List.getElem?_eq_some_iff.1 hxk).1
    refine T_skip ?_
    refine hK3 _ _ ?_
    refine T_seqR (fun (e : Env) (w : World) => Sub [(0, .slice A n c), (2, .int .i64 (max least 0)), (4, .pointer (some ⟨b1, 0, none⟩))] e ∧ St w0 noM [blk b1 23 (bA x.l)] w) ?_ ?_
    ·
      refine T_seq fun K7 hK7 => ?_
      refine T_region ?_
      refine L_y (y_move rfl) rfl ?_
      refine L_y (y_lss rfl rfl) rfl ?_
      refine L_nil ?_
      refine hK7 _ _ ?_
      refine T_cond rfl (fun h25 => ?_) (fun h25 => ?_)
      ·
        refine T_region ?_
        refine L_y (y_assign rfl) rfl ?_
        refine L_nil ?_
        exact ⟨(Sub.cons rfl (by first | rfl | exact congrArg (Value.int _) (by omega)) (Sub.cons rfl (by first | rfl | exact congrArg (Value.int _) (by omega)) (Sub.cons rfl (by first | rfl | exact congrArg (Value.int _) (by omega)) (Sub.nil _)))), S2⟩
      ·
        refine T_skip ?_
        exact ⟨(Sub.cons rfl (by first | rfl | exact congrArg (Value.int _) (by omega)) (Sub.cons rfl (by first | rfl | exact congrArg (Value.int _) (by omega)) (Sub.cons rfl (by first | rfl | exact congrArg (Value.int _) (by omega)) (Sub.nil _)))), S2⟩
    ·
      rintro e3 w3 ⟨hsub, S3⟩
      refine T_weak hsub ?_
      refine T_seq fun K8 hK8 => ?_
      refine T_region ?_
      refine L_y (y_ldW Try.underlying23 rfl sz23 rfl (S3.blk 0 rfl) (whole32 x)) rfl ?_
      refine L_o (o_call Try.func35 rfl rfl (cDigits x w3) rfl rfl ?_)
      rintro e4 w4 ⟨v4, rfl, l4, AD, cD, rfl, O4⟩
      refine ⟨_, rfl, ?_⟩
      have S4 := S3.adopt l4 O4
      refine L_y (y_assign rfl) rfl ?_
      refine L_nil ?_
      refine hK8 _ _ ?_
      refine T_seq fun K9 hK9 => ?_
      refine T_seq fun K10 hK10 => ?_
      refine T_region ?_
      refine L_y (y_move rfl) rfl ?_
      refine L_y (y_assign rfl) rfl ?_
      refine L_nil ?_
      refine hK10 _ _ ?_
      refine T_block ?_
      refine T_loop1 [(0, _), (4, _), (9, _)] (fun (q : Nat) => [(10, .int .i64 (q : Int))]) (fun (q : Nat) => 64 - q) (fun (q : Nat) (w : World) => (max least 0 ≤ q ∧ ∀ m : Nat, max least 0 ≤ m → m < q → alB l x m = false) ∧ St w0 noM [blk b1 23 (bA x.l), row 3 1 AD 64 cD (iL (digL x.l))] w) (max least 0).toNat (Sub.cons rfl (congrArg (Value.int _) (by omega)) (Sub.nil _)) (Sub.cons rfl rfl (Sub.cons rfl rfl (Sub.cons rfl rfl (Sub.nil _)))) ?_ ?_
      ·
        exact ⟨⟨by omega, fun m h1 h2 => by omega⟩, S4⟩
      ·
        intro q w5 hrel
        obtain ⟨⟨hq, hno⟩, S5⟩ := hrel
        refine T_seq fun K11 hK11 => ?_
        refine T_seq fun K12 hK12 => ?_
        refine T_region ?_
        refine L_y (y_move rfl) rfl ?_
        refine L_y (y_lss rfl rfl) rfl ?_
        refine L_nil ?_
        refine hK12 _ _ ?_
        refine T_cond rfl (fun h30 => ?_) (fun h30 => ?_)
        ·
          refine T_skip ?_
          refine hK11 _ _ ?_
          refine T_seq fun K13 hK13 => ?_
          refine T_block ?_
          refine T_seq fun K14 hK14 => ?_
          refine T_region ?_
          refine L_y (y_assign rfl) rfl ?_
          refine L_nil ?_
          refine hK14 _ _ ?_
          refine T_seq fun K15 hK15 => ?_
          refine T_seq fun K16 hK16 => ?_
          refine T_region ?_
          refine L_y (y_assign rfl) rfl ?_
          refine L_nil ?_
          refine hK16 _ _ ?_
          refine T_block ?_
          refine T_loop2 [(0, _), (4, _), (9, _), (10, _)] (fun (i : Nat) (bo : Bool) => [(11, .bool bo), (12, .int .i64 (i : Int))]) (fun (i : Nat) (bo : Bool) => n - i) (fun (i : Nat) (bo : Bool) (w : World) => (i ≤ n ∧ bo = alB (l.take i) x q) ∧ St w0 noM [blk b1 23 (bA x.l), row 3 1 AD 64 cD (iL (digL x.l))] w) 0 true (Sub.cons rfl (by first | rfl | exact congrArg (Value.int _) (by omega)) (Sub.cons rfl (by first | rfl | exact congrArg (Value.int _) (by omega)) (Sub.nil _))) (Sub.cons rfl rfl (Sub.cons rfl rfl (Sub.cons rfl rfl (Sub.cons rfl rfl (Sub.nil _))))) ?_ ?_
          ·
            exact ⟨⟨Nat.zero_le _, by simp [alB]⟩, S5⟩
          ·
            intro i bo w6 hrel
            obtain ⟨⟨hi, hbo⟩, S6⟩ := hrel
            refine T_seq fun K17 hK17 => ?_
            refine T_seq fun K18 hK18 => ?_
            refine T_region ?_
            refine L_y (y_move rfl) rfl ?_
            refine L_y (y_move rfl) rfl ?_
            refine L_y (y_len Try.underlying44 rfl) rfl ?_
            refine L_y (y_lss rfl rfl) rfl ?_
            refine L_nil ?_
            refine hK18 _ _ ?_
            refine T_cond rfl (fun h36 => ?_) (fun h36 => ?_)
            ·
              obtain ⟨y, hy⟩ : ∃ y, l[i]? = some y := ⟨_, List.getElem?_eq_getElem (by omega)⟩
              refine T_skip ?_
              refine hK17 _ _ ?_
              refine T_seq fun K19 hK19 => ?_
              refine T_block ?_
              refine T_seq fun K20 hK20 => ?_
              refine T_region ?_
              refine L_y (y_move rfl) rfl ?_
              refine L_y (y_move rfl) rfl ?_
              refine L_y (y_idx Try.underlying44 sz23 rfl rfl (S6.rd hl) (Nt.mk (by omega) : Nt _ (i)) (by omega)) rfl ?_
              refine L_y (y_ldp (f := idf) idf_len Try.underlying23 rfl sz23 rfl (S6.rd hl) (by omega) hy) rfl ?_
              refine L_o (o_call Try.func35 rfl rfl (cDigits y w6) rfl rfl ?_)
              rintro e7 w7 ⟨v7, rfl, l7, AE, cE, rfl, O7⟩
              refine ⟨_, rfl, ?_⟩
              have S7 := S6.adopt l7 O7
              refine L_y (y_assign rfl) rfl ?_
              refine L_nil ?_
              refine hK20 _ _ ?_
              refine T_seq fun K21 hK21 => ?_
              refine T_drawnL [(0, true), (1, true), (2, true), (3, true), (4, true), (5, true), (6, true)] hmix (by kernel_rfl) fun w8 l8 => ?_
              have S8 := S7.like l8
              refine DL_y rfl (y_move rfl) rfl ?_
              refine DL_y rfl (y_move rfl) rfl ?_
              refine DL_y rfl (y_idx Try.underlying44 sz23 rfl rfl (S8.rd hl) (Nt.mk (by omega) : Nt _ (i)) (by omega)) rfl ?_
              refine DL_y rfl (y_ldp (f := idf) idf_len Try.underlying23 rfl sz23 rfl (S8.rd hl) (by omega) hy) rfl ?_
              refine DL_y rfl (y_ldW Try.underlying23 rfl sz23 rfl (S8.blk 0 rfl) (whole32 x)) rfl ?_
              refine DL_y rfl (y_neB Try.underlying23 Try.underlying5 sz5 (by kernel_rfl) rfl rfl y.h x.h) rfl ?_
              refine DL_y rfl (y_assign rfl) rfl ?_
              refine DL_nil ?_
              refine hK21 _ _ ?_
              refine T_seq fun K22 hK22 => ?_
              refine T_seq fun K23 hK23 => ?_
              refine T_region ?_
              refine L_y (y_assign rfl) rfl ?_
              refine L_nil ?_
              refine hK23 _ _ ?_
              refine T_block ?_
              refine T_loop2 [(0, _), (4, _), (9, _), (10, _), (11, _), (12, _), (13, _)] (fun (j : Nat) (sm : Bool) => [(14, .bool sm), (15, .int .i64 (j : Int))]) (fun (j : Nat) (sm : Bool) => q - j) (fun (j : Nat) (sm : Bool) (w : World) => (j ≤ q ∧ sm = (decide (y.l ≠ x.l) && agB j y x)) ∧ St w0 noM [blk b1 23 (bA x.l), row 3 1 AD 64 cD (iL (digL x.l)), row 3 1 AE 64 cE (iL (digL y.l))] w) 0 (decide (y.l ≠ x.l)) (Sub.cons rfl (by first | rfl | exact congrArg (Value.int _) (by omega)) (Sub.cons rfl (by first | rfl | exact congrArg (Value.int _) (by omega)) (Sub.nil _))) (Sub.cons rfl rfl (Sub.cons rfl rfl (Sub.cons rfl rfl (Sub.cons rfl rfl (Sub.cons rfl rfl (Sub.cons rfl rfl (Sub.cons rfl rfl (Sub.nil _)))))))) ?_ ?_
              ·
                exact ⟨⟨Nat.zero_le _, by simp [agB]⟩, S8⟩
              ·
                intro j sm w9 hrel
                obtain ⟨⟨hj, hsm⟩, S9⟩ := hrel
                refine T_seq fun K24 hK24 => ?_
                refine T_seq fun K25 hK25 => ?_
                refine T_region ?_
                refine L_y (y_move rfl) rfl ?_
                refine L_y (y_move rfl) rfl ?_
                refine L_y (y_lss rfl rfl) rfl ?_
                refine L_y (y_move rfl) rfl ?_
                refine L_split 53 rfl (fun h53 => ?_) (fun h53 => ?_)
                ·
                  refine L_gyes rfl rfl ?_
                  refine L_y (y_move rfl) rfl ?_
                  refine L_y ((by first | exact y_pickT rfl rfl | exact y_pickF rfl rfl)) rfl ?_
                  refine L_nil ?_
                  refine hK25 _ _ ?_
                  refine T_condB rfl (fun h55 => ?_) (fun h55 => ?_)
                  ·
                    refine T_skip ?_
                    refine hK24 _ _ ?_
                    refine T_seq fun K26 hK26 => ?_
                    refine T_block ?_
                    refine T_drawnL [(0, true), (1, true), (2, true), (3, true), (4, true), (5, true), (6, true), (7, true), (8, true), (9, true)] hmix (by kernel_rfl) fun w11 l11 => ?_
                    have S11 := S9.like l11
                    refine DL_y rfl (y_move rfl) rfl ?_
                    refine DL_y rfl (y_move rfl) rfl ?_
                    refine DL_y rfl (y_idx Try.underlying62 sz3 rfl rfl (S11.row 1 rfl) (Nt.mk (by omega) : Nt _ (j)) (by omega)) rfl ?_
                    refine DL_y rfl (y_ldr Try.underlying3 rfl rfl (S11.row 1 rfl) (dig_at x j (by omega))) rfl ?_
                    refine DL_y rfl (y_move rfl) rfl ?_
                    refine DL_y rfl (y_move rfl) rfl ?_
                    refine DL_y rfl (y_idx Try.underlying62 sz3 rfl rfl (S11.row 2 rfl) (Nt.mk (by omega) : Nt _ (j)) (by omega)) rfl ?_
                    refine DL_y rfl (y_ldr Try.underlying3 rfl rfl (S11.row 2 rfl) (dig_at y j (by omega))) rfl ?_
                    refine DL_y rfl (y_eql rfl rfl) rfl ?_
                    refine DL_y rfl (y_assign rfl) rfl ?_
                    refine DL_nil ?_
                    refine hK26 _ _ ?_
                    refine T_region ?_
                    refine L_y (y_move rfl) rfl ?_
                    refine L_y (y_add rfl rfl (i64w (by omega))) rfl ?_
                    refine L_y (y_assign rfl) rfl ?_
                    refine L_nil ?_
                    have hsm2 : (decide (y.l ≠ x.l) && agB j y x) = true := by rw [← hsm]; exact h55
                    refine ⟨j + 1, decide ((nib x j : Int) = (nib y j : Int)), by omega, ⟨⟨by omega, by rw [agB_succ, ← Bool.and_assoc, hsm2, Bool.true_and, nat_dec]⟩, S11⟩, ?_⟩
                    exact (Sub.cons rfl (by first | rfl | exact congrArg (Value.int _) (by omega)) (Sub.cons rfl (by first | rfl | exact congrArg (Value.int _) (by omega)) (Sub.cons rfl rfl (Sub.cons rfl rfl (Sub.cons rfl rfl (Sub.cons rfl rfl (Sub.cons rfl rfl (Sub.cons rfl rfl (Sub.cons rfl rfl (Sub.nil _))))))))))
                  ·
                    refine T_exit ?_
                    refine hK22 _ _ ?_
                    have hsmF : sm = (decide (y.l ≠ x.l) && agB q y x) := by first | exact (by rw [hsm, show j = q by omega]) | exact (by rw [h55]; exact (sm_end (by rw [← hsm]; exact h55) hj).symm)
                    refine T_region ?_
                    refine L_y (y_move rfl) rfl ?_
                    refine L_y (y_move rfl) rfl ?_
                    refine L_splitB 68 rfl (fun h68 => ?_) (fun h68 => ?_)
                    ·
                      refine L_gyes rfl rfl ?_
                      refine L_y (y_move rfl) rfl ?_
                      refine L_gyes rfl rfl ?_
                      refine L_y ((by first | exact y_notD rfl | exact y_not rfl)) rfl ?_
                      refine L_y ((by first | exact y_pickT rfl rfl | exact y_pickF rfl rfl)) rfl ?_
                      refine L_y (y_assign rfl) rfl ?_
                      refine L_nil ?_
                      refine hK19 _ _ ?_
                      refine T_region ?_
                      refine L_y (y_move rfl) rfl ?_
                      refine L_y (y_add rfl rfl (i64w (by omega))) rfl ?_
                      refine L_y (y_assign rfl) rfl ?_
                      refine L_nil ?_
                      have S93 := S9.drop (rs' := [_, _]) (.cons_cons _ (.cons_cons _ (.cons _ (.refl _))))
                      refine ⟨i + 1, (bo && !sm), by omega, ⟨⟨by omega, by rw [alB_take hy, ← hbo, ← hsmF]⟩, S93⟩, ?_⟩
                      exact (Sub.cons rfl (congrArg Value.bool (by rw [h68]; first | rfl | simp)) (Sub.cons rfl (by first | rfl | exact congrArg (Value.int _) (by omega)) (Sub.cons rfl rfl (Sub.cons rfl rfl (Sub.cons rfl rfl (Sub.cons rfl rfl (Sub.nil _)))))))
                    ·
                      refine L_gno rfl rfl rfl ?_
                      refine L_gno rfl rfl rfl ?_
                      refine L_y ((by first | exact y_pickT rfl rfl | exact y_pickF rfl rfl)) rfl ?_
                      refine L_y (y_assign rfl) rfl ?_
                      refine L_nil ?_
                      refine hK19 _ _ ?_
                      refine T_region ?_
                      refine L_y (y_move rfl) rfl ?_
                      refine L_y (y_add rfl rfl (i64w (by omega))) rfl ?_
                      refine L_y (y_assign rfl) rfl ?_
                      refine L_nil ?_
                      have S93 := S9.drop (rs' := [_, _]) (.cons_cons _ (.cons_cons _ (.cons _ (.refl _))))
                      refine ⟨i + 1, (bo && !sm), by omega, ⟨⟨by omega, by rw [alB_take hy, ← hbo, ← hsmF]⟩, S93⟩, ?_⟩
                      exact (Sub.cons rfl (congrArg Value.bool (by rw [h68]; first | rfl | simp)) (Sub.cons rfl (by first | rfl | exact congrArg (Value.int _) (by omega)) (Sub.cons rfl rfl (Sub.cons rfl rfl (Sub.cons rfl rfl (Sub.cons rfl rfl (Sub.nil _)))))))
                ·
                  refine L_gno rfl rfl rfl ?_
                  refine L_y ((by first | exact y_pickT rfl rfl | exact y_pickF rfl rfl)) rfl ?_
                  refine L_nil ?_
                  refine hK25 _ _ ?_
                  refine T_false rfl ?_
                  refine T_exit ?_
                  refine hK22 _ _ ?_
                  have hsmF : sm = (decide (y.l ≠ x.l) && agB q y x) := by first | exact (by rw [hsm, show j = q by omega]) | exact (by rw [h55]; exact (sm_end (by rw [← hsm]; exact h55) hj).symm)
                  refine T_region ?_
                  refine L_y (y_move rfl) rfl ?_
                  refine L_y (y_move rfl) rfl ?_
                  refine L_splitB 68 rfl (fun h68 => ?_) (fun h68 => ?_)
                  ·
                    refine L_gyes rfl rfl ?_
                    refine L_y (y_move rfl) rfl ?_
                    refine L_gyes rfl rfl ?_
                    refine L_y ((by first | exact y_notD rfl | exact y_not rfl)) rfl ?_
                    refine L_y ((by first | exact y_pickT rfl rfl | exact y_pickF rfl rfl)) rfl ?_
                    refine L_y (y_assign rfl) rfl ?_
                    refine L_nil ?_
                    refine hK19 _ _ ?_
                    refine T_region ?_
                    refine L_y (y_move rfl) rfl ?_
                    refine L_y (y_add rfl rfl (i64w (by omega))) rfl ?_
                    refine L_y (y_assign rfl) rfl ?_
                    refine L_nil ?_
                    have S93 := S9.drop (rs' := [_, _]) (.cons_cons _ (.cons_cons _ (.cons _ (.refl _))))
                    refine ⟨i + 1, (bo && !sm), by omega, ⟨⟨by omega, by rw [alB_take hy, ← hbo, ← hsmF]⟩, S93⟩, ?_⟩
                    exact (Sub.cons rfl (congrArg Value.bool (by rw [h68]; first | rfl | simp)) (Sub.cons rfl (by first | rfl | exact congrArg (Value.int _) (by omega)) (Sub.cons rfl rfl (Sub.cons rfl rfl (Sub.cons rfl rfl (Sub.cons rfl rfl (Sub.nil _)))))))
                  ·
                    refine L_gno rfl rfl rfl ?_
                    refine L_gno rfl rfl rfl ?_
                    refine L_y ((by first | exact y_pickT rfl rfl | exact y_pickF rfl rfl)) rfl ?_
                    refine L_y (y_assign rfl) rfl ?_
                    refine L_nil ?_
                    refine hK19 _ _ ?_
                    refine T_region ?_
                    refine L_y (y_move rfl) rfl ?_
                    refine L_y (y_add rfl rfl (i64w (by omega))) rfl ?_
                    refine L_y (y_assign rfl) rfl ?_
                    refine L_nil ?_
                    have S93 := S9.drop (rs' := [_, _]) (.cons_cons _ (.cons_cons _ (.cons _ (.refl _))))
                    refine ⟨i + 1, (bo && !sm), by omega, ⟨⟨by omega, by rw [alB_take hy, ← hbo, ← hsmF]⟩, S93⟩, ?_⟩
                    exact (Sub.cons rfl (congrArg Value.bool (by rw [h68]; first | rfl | simp)) (Sub.cons rfl (by first | rfl | exact congrArg (Value.int _) (by omega)) (Sub.cons rfl rfl (Sub.cons rfl rfl (Sub.cons rfl rfl (Sub.cons rfl rfl (Sub.nil _)))))))
            ·
              rw [List.take_of_length_le (by omega)] at hbo
              refine T_exit ?_
              refine hK15 _ _ ?_
              refine T_seq fun K27 hK27 => ?_
              refine T_region ?_
              refine L_y (y_move rfl) rfl ?_
              refine L_nil ?_
              refine hK27 _ _ ?_
              refine T_condB rfl (fun h72 => ?_) (fun h72 => ?_)
              ·
                refine T_seq fun K28 hK28 => ?_
                refine T_region ?_
                refine L_y (y_move rfl) rfl ?_
                refine L_y (y_assign rfl) rfl ?_
                refine L_nil ?_
                refine hK28 _ _ ?_
                refine T_ret ?_
                repeat (first | with_reducible refine up_then ?_ | with_reducible refine up_in ?_)
                refine ret1 rfl rfl ?_
                first | exact ⟨_, rfl, S6.like0, .inr ⟨hr, k, hk, .inr ⟨hxk, 64, tells_none (fun m h1 h2 => hno m h1 (by omega)), rfl⟩⟩⟩ | exact ⟨_, rfl, S6.like0, .inr ⟨hr, k, hk, .inr ⟨hxk, q, tells_first (by omega) (by omega) hno (by rw [← hbo]; exact h72), rfl⟩⟩⟩
              ·
                refine T_skip ?_
                refine hK13 _ _ ?_
                refine T_region ?_
                refine L_y (y_move rfl) rfl ?_
                refine L_y (y_add rfl rfl (i64w (by omega))) rfl ?_
                refine L_y (y_assign rfl) rfl ?_
                refine L_nil ?_
                refine ⟨q + 1, by omega, ⟨⟨by omega, fun m h1 h2 => by rcases Nat.lt_or_ge m q with q9 | q9; exact hno m h1 q9; rw [show m = q by omega, ← hbo]; exact h72⟩, S6⟩, ?_⟩
                exact (Sub.cons rfl (by first | rfl | exact congrArg (Value.int _) (by omega)) (Sub.cons rfl rfl (Sub.cons rfl rfl (Sub.cons rfl rfl (Sub.nil _)))))
        ·
          refine T_exit ?_
          refine hK9 _ _ ?_
          refine T_seq fun K29 hK29 => ?_
          refine T_region ?_
          refine L_y (y_assign rfl) rfl ?_
          refine L_nil ?_
          refine hK29 _ _ ?_
          refine T_ret ?_
          repeat (first | with_reducible refine up_then ?_ | with_reducible refine up_in ?_)
          refine ret1 rfl rfl ?_
          first | exact ⟨_, rfl, S5.like0, .inr ⟨hr, k, hk, .inr ⟨hxk, 64, tells_none (fun m h1 h2 => hno m h1 (by omega)), rfl⟩⟩⟩ | exact ⟨_, rfl, S5.like0, .inr ⟨hr, k, hk, .inr ⟨hxk, q, tells_first (by omega) (by omega) hno (by rw [← hbo]; exact h72), rfl⟩⟩⟩
end Go.Proofs.Ytblbcmkhgjlpcaa
