/-
  SortStableFunc.
-/
import Derived.Test.YtmgimcdkeelnpaaC
namespace Go.Proofs.Ytmgimcdkeelnpaa
open Go.RowKit Zk Zx
set_option linter.unusedVariables false
set_option linter.unusedSimpArgs false

/-- Sorted in pieces of so many. -/
def cs (lt : EV → EV → Bool) (bs : Nat) (l : List EV) : List EV := if h : 0 < bs ∧ bs < l.length then srt lt (l.take bs) ++ cs lt bs (l.drop bs) else srt lt l
termination_by l.length
decreasing_by rw [List.length_drop]; omega
theorem cs_last {lt : EV → EV → Bool} {bs : Nat} {l : List EV} (h : l.length ≤ bs) : cs lt bs l = srt lt l := by rw [cs, dif_neg (by omega)]
theorem cs_step {lt : EV → EV → Bool} {bs : Nat} {l : List EV} (h0 : 0 < bs) (h : bs ≤ l.length) : cs lt bs l = srt lt (l.take bs) ++ cs lt bs (l.drop bs) := by
  rcases Nat.lt_or_ge bs l.length with q | q
  · rw [cs, dif_pos ⟨h0, q⟩]
  · have e : l.length = bs := by omega
    rw [cs_last (by omega), List.take_of_length_le (by omega), List.drop_of_length_le (by omega), cs_last (by simp)]
    simp [srt]
theorem cs_two {lt : EV → EV → Bool} {bs : Nat} {l : List EV} (h0 : 0 < bs) (h : 2 * bs ≤ l.length) : cs lt bs l = srt lt (l.take bs) ++ srt lt ((l.drop bs).take bs) ++ cs lt bs (l.drop (2 * bs)) := by
  rw [cs_step h0 (by omega), cs_step h0 (l := l.drop bs) (by rw [List.length_drop]; omega), List.drop_drop, List.append_assoc, show bs + bs = 2 * bs by omega]
theorem cs_one {lt : EV → EV → Bool} {bs : Nat} {l : List EV} (h0 : 0 < bs) (h : bs ≤ l.length) (h2 : l.length ≤ 2 * bs) : cs lt bs l = srt lt (l.take bs) ++ srt lt (l.drop bs) := by
  rw [cs_step h0 h, cs_last (by rw [List.length_drop]; omega)]
theorem srt_two {lt : EV → EV → Bool} (O : Ord3 lt) (l : List EV) (bs : Nat) : mrg lt (srt lt (l.take bs)) (srt lt ((l.drop bs).take bs)) = srt lt (l.take (2 * bs)) := by
  rw [mrg_srt O, show 2 * bs = bs + bs by omega, List.take_add]
theorem srt_two' {lt : EV → EV → Bool} (O : Ord3 lt) (l : List EV) (bs : Nat) : mrg lt (srt lt (l.take bs)) (srt lt (l.drop bs)) = srt lt l := by
  rw [mrg_srt O, List.take_append_drop]
theorem cs_len {lt : EV → EV → Bool} {bs : Nat} : ∀ (N : Nat) (l : List EV), l.length ≤ N → (cs lt bs l).length = l.length
  | N, l, h => by
    rw [cs]
    split
    · rename_i q
      match N, h with
      | 0, h => omega
      | N + 1, h =>
        rw [List.length_append, srt_len, cs_len N (l.drop bs) (by rw [List.length_drop]; omega), List.length_take, List.length_drop]
        omega
    · rw [srt_len]


set_option maxRecDepth 100000 in
theorem stabl (A : Option Addr) (n c : Nat) (l : List EV) (F : Nat) (lt : EV → EV → Bool) (w0 : World) (hw : (enR A c l).holds w0) (hC : CMP F lt) (hn : n = l.length) (hn5 : n ≤ 10000) :
    Calls Try.prog 34 #[.slice A n c, .int .i64 (n : Int), .func (.func F) #[] #[]] w0 fun e w' => ∃ u, e = .returned u ∧ Turned w0 w' (enR A c l) (enR A c (srt lt l)) := by
  refine enter1 (env := [(0, .slice A n c), (1, .int .i64 (n : Int)), (2, .func (.func F) #[] #[])]) [.slice A n c, .int .i64 (n : Int), .func (.func F) #[] #[]] Try.func34 rfl Try.ntmps34 rfl rfl ?_
  have S0 := St.borrow1 (enR A c l) hw (enR_lt hw)
  refine T_seq fun K1 hK1 => ?_
  refine T_region ?_
  refine L_y (y_assign rfl) rfl ?_
  refine L_nil ?_
  refine hK1 _ _ ?_
  refine T_seq fun K2 hK2 => ?_
  refine T_region ?_
  refine L_y (y_move rfl) rfl ?_
  refine L_y (y_assign rfl) rfl ?_
  refine L_y (y_assign rfl) rfl ?_
  refine L_nil ?_
  refine hK2 _ _ ?_
  refine T_seq fun K3 hK3 => ?_
  refine T_block ?_
  refine T_loop1 [(0, _), (1, _), (2, _), (6, _)] (fun (D : List EV) => [(7, .int .i64 (D.length : Int)), (8, .int .i64 ((D.length + 20 : Nat) : Int))]) (fun (D : List EV) => l.length - D.length) (fun (D : List EV) (w : World) => (D.length ≤ l.length ∧ D ++ cs lt 20 (l.drop D.length) = cs lt 20 l) ∧ St w0 (enR A c l).dom [enR A c (D ++ (l.drop D.length))] w) [] (Sub.cons rfl (by first | rfl | exact congrArg (Value.int _) (by omega)) (Sub.cons rfl (by first | rfl | exact congrArg (Value.int _) (by omega)) (Sub.nil _))) (Sub.cons rfl rfl (Sub.cons rfl rfl (Sub.cons rfl rfl (Sub.cons rfl rfl (Sub.nil _))))) ?_ ?_
  ·
    exact ⟨⟨Nat.zero_le _, rfl⟩, by simpa using S0⟩
  ·
    intro D w1 hrel
    obtain ⟨⟨hD, hcs⟩, S1⟩ := hrel
    have hRl : (l.drop D.length).length = l.length - D.length := List.length_drop
    refine T_seq fun K4 hK4 => ?_
    refine T_seq fun K5 hK5 => ?_
    refine T_region ?_
    refine L_y (y_move rfl) rfl ?_
    refine L_y (y_move rfl) rfl ?_
    refine L_y (y_leq rfl rfl) rfl ?_
    refine L_nil ?_
    refine hK5 _ _ ?_
    refine T_cond rfl (fun h13 => ?_) (fun h13 => ?_)
    ·
      rw [show D ++ (l.drop D.length) = D ++ (l.drop D.length).take 20 ++ (l.drop D.length).drop 20 from by rw [List.append_assoc, List.take_append_drop]] at S1
      refine T_skip ?_
      refine hK4 _ _ ?_
      refine T_block ?_
      refine T_seq fun K6 hK6 => ?_
      refine T_region ?_
      refine L_y (y_move rfl) rfl ?_
      refine L_y (y_move rfl) rfl ?_
      refine L_y (y_move rfl) rfl ?_
      refine L_y (y_move rfl) rfl ?_
      refine L_o (o_call Try.func44 rfl rfl (insor A n c _ _ D ((l.drop D.length).take 20) ((l.drop D.length).drop 20) F lt w1 (S1.get 0 rfl) hC (by simp; omega) rfl (by rw [List.length_take]; omega) (by omega)) rfl rfl ?_)
      rintro e2 w2 ⟨v2, rfl, T2⟩
      refine ⟨_, rfl, ?_⟩
      have S2 := S1.turn 0 rfl T2
      refine L_nil ?_
      refine hK6 _ _ ?_
      refine T_seq fun K7 hK7 => ?_
      refine T_region ?_
      refine L_y (y_move rfl) rfl ?_
      refine L_y (y_assign rfl) rfl ?_
      refine L_nil ?_
      refine hK7 _ _ ?_
      refine T_region ?_
      refine L_y (y_move rfl) rfl ?_
      refine L_y (y_move rfl) rfl ?_
      refine L_y (y_add rfl rfl (i64w (by omega))) rfl ?_
      refine L_y (y_assign rfl) rfl ?_
      refine L_nil ?_
      have hDl : (D ++ srt lt ((l.drop D.length).take 20)).length = D.length + 20 := by rw [List.length_append, srt_len, List.length_take]; omega
      rw [List.drop_drop] at S2
      refine ⟨D ++ srt lt ((l.drop D.length).take 20), by omega, ⟨⟨by omega, by rw [hDl, ← List.drop_drop, List.append_assoc, ← cs_step (by omega) (by omega), hcs]⟩, by rw [hDl]; exact S2⟩, ?_⟩
      exact (Sub.cons rfl (congrArg (Value.int _) (by omega)) (Sub.cons rfl (congrArg (Value.int _) (by omega)) (Sub.cons rfl rfl (Sub.cons rfl rfl (Sub.cons rfl rfl (Sub.cons rfl rfl (Sub.nil _)))))))
    ·
      rw [show D ++ (l.drop D.length) = D ++ (l.drop D.length) ++ [] from by simp] at S1
      refine T_exit ?_
      refine hK3 _ _ ?_
      refine T_seq fun K8 hK8 => ?_
      refine T_region ?_
      refine L_y (y_move rfl) rfl ?_
      refine L_y (y_move rfl) rfl ?_
      refine L_y (y_move rfl) rfl ?_
      refine L_y (y_move rfl) rfl ?_
      refine L_o (o_call Try.func44 rfl rfl (insor A n c _ _ D (l.drop D.length) [] F lt w1 (S1.get 0 rfl) hC (by simp; omega) rfl (by omega) (by omega)) rfl rfl ?_)
      rintro e3 w3 ⟨v3, rfl, T3⟩
      refine ⟨_, rfl, ?_⟩
      have S3 := S1.turn 0 rfl T3
      have e9 : D ++ srt lt (l.drop D.length) ++ [] = cs lt 20 l := by rw [List.append_nil, ← cs_last (bs := 20) (by omega), hcs]
      rw [e9] at S3
      refine L_nil ?_
      refine hK8 _ _ ?_
      refine T_block ?_
      refine T_loop1 [(0, _), (1, _), (2, _)] (fun (bs : Nat) => [(6, .int .i64 (bs : Int))]) (fun (bs : Nat) => n - bs) (fun (bs : Nat) (w : World) => (20 ≤ bs) ∧ St w0 (enR A c l).dom [enR A c (cs lt bs l)] w) 20 (Sub.cons rfl (by first | rfl | exact congrArg (Value.int _) (by omega)) (Sub.nil _)) (Sub.cons rfl rfl (Sub.cons rfl rfl (Sub.cons rfl rfl (Sub.nil _)))) ?_ ?_
      ·
        exact ⟨by omega, S3⟩
      ·
        intro bs w4 hrel
        obtain ⟨hbs, S4⟩ := hrel
        refine T_seq fun K9 hK9 => ?_
        refine T_seq fun K10 hK10 => ?_
        refine T_region ?_
        refine L_y (y_move rfl) rfl ?_
        refine L_y (y_move rfl) rfl ?_
        refine L_y (y_lss rfl rfl) rfl ?_
        refine L_nil ?_
        refine hK10 _ _ ?_
        refine T_cond rfl (fun h30 => ?_) (fun h30 => ?_)
        ·
          refine T_skip ?_
          refine hK9 _ _ ?_
          refine T_block ?_
          refine T_seq fun K11 hK11 => ?_
          refine T_region ?_
          refine L_y (y_move rfl) rfl ?_
          refine L_y (y_mul rfl rfl (i64w (by omega))) rfl ?_
          refine L_y (y_assign rfl) rfl ?_
          refine L_y (y_assign rfl) rfl ?_
          refine L_nil ?_
          refine hK11 _ _ ?_
          refine T_seq fun K12 hK12 => ?_
          refine T_block ?_
          refine T_loop1 [(0, _), (1, _), (2, _), (6, _)] (fun (E : List EV) => [(7, .int .i64 (E.length : Int)), (8, .int .i64 ((E.length + 2 * bs : Nat) : Int))]) (fun (E : List EV) => l.length - E.length) (fun (E : List EV) (w : World) => (E.length ≤ l.length ∧ E ++ cs lt (2 * bs) (l.drop E.length) = cs lt (2 * bs) l) ∧ St w0 (enR A c l).dom [enR A c (E ++ cs lt bs (l.drop E.length))] w) [] (Sub.cons rfl (by first | rfl | exact congrArg (Value.int _) (by first | omega | (simp; done) | (simp; omega))) (Sub.cons rfl (by first | rfl | exact congrArg (Value.int _) (by first | omega | (simp; done) | (simp; omega))) (Sub.nil _))) (Sub.cons rfl rfl (Sub.cons rfl rfl (Sub.cons rfl rfl (Sub.cons rfl rfl (Sub.nil _))))) ?_ ?_
          ·
            exact ⟨⟨Nat.zero_le _, rfl⟩, by simpa using S4⟩
          ·
            intro E w5 hrel
            obtain ⟨⟨hE, hcs2⟩, S5⟩ := hrel
            have hEl : (l.drop E.length).length = l.length - E.length := List.length_drop
            have hcl := cs_len (lt := lt) (bs := bs) _ (l.drop E.length) (Nat.le_refl _)
            refine T_seq fun K13 hK13 => ?_
            refine T_seq fun K14 hK14 => ?_
            refine T_region ?_
            refine L_y (y_move rfl) rfl ?_
            refine L_y (y_move rfl) rfl ?_
            refine L_y (y_leq rfl rfl) rfl ?_
            refine L_nil ?_
            refine hK14 _ _ ?_
            refine T_cond rfl (fun h35 => ?_) (fun h35 => ?_)
            ·
              rw [cs_two (by omega) (by omega), show E ++ (srt lt ((l.drop E.length).take bs) ++ srt lt (((l.drop E.length).drop bs).take bs) ++ cs lt bs ((l.drop E.length).drop (2 * bs))) = E ++ srt lt ((l.drop E.length).take bs) ++ srt lt (((l.drop E.length).drop bs).take bs) ++ cs lt bs ((l.drop E.length).drop (2 * bs)) from by simp] at S5
              have k1 : (srt lt ((l.drop E.length).take bs)).length = bs := by rw [srt_len, List.length_take]; omega
              have k2 : (srt lt (((l.drop E.length).drop bs).take bs)).length = bs := by rw [srt_len, List.length_take, List.length_drop]; omega
              have k3 := cs_len (lt := lt) (bs := bs) _ ((l.drop E.length).drop (2 * bs)) (Nat.le_refl _)
              rw [List.length_drop] at k3
              refine T_skip ?_
              refine hK13 _ _ ?_
              refine T_block ?_
              refine T_seq fun K15 hK15 => ?_
              refine T_region ?_
              refine L_y (y_move rfl) rfl ?_
              refine L_y (y_move rfl) rfl ?_
              refine L_y (y_move rfl) rfl ?_
              refine L_y (y_move rfl) rfl ?_
              refine L_y (y_add rfl rfl (i64w (by omega))) rfl ?_
              refine L_y (y_move rfl) rfl ?_
              refine L_y (y_move rfl) rfl ?_
              refine L_o (o_call Try.func45 rfl rfl (symm hC hn5 E (srt lt ((l.drop E.length).take bs)) (srt lt (((l.drop E.length).drop bs).take bs)) (cs lt bs ((l.drop E.length).drop (2 * bs))) _ _ _ w5 (S5.get 0 rfl) (by rw [List.length_append, List.length_append, List.length_append]; omega) rfl (by omega) (by omega) (by omega) (by omega) (srt_sorted hC.ord _) (srt_sorted hC.ord _)) rfl rfl ?_)
              rintro e6 w6 ⟨v6, rfl, T6⟩
              refine ⟨_, rfl, ?_⟩
              have S6 := S5.turn 0 rfl T6
              refine L_nil ?_
              refine hK15 _ _ ?_
              refine T_seq fun K16 hK16 => ?_
              refine T_region ?_
              refine L_y (y_move rfl) rfl ?_
              refine L_y (y_assign rfl) rfl ?_
              refine L_nil ?_
              refine hK16 _ _ ?_
              refine T_region ?_
              refine L_y (y_move rfl) rfl ?_
              refine L_y (y_move rfl) rfl ?_
              refine L_y (y_mul rfl rfl (i64w (by omega))) rfl ?_
              refine L_y (y_add rfl rfl (i64w (by omega))) rfl ?_
              refine L_y (y_assign rfl) rfl ?_
              refine L_nil ?_
              have hDl : (E ++ srt lt ((l.drop E.length).take (2 * bs))).length = E.length + 2 * bs := by rw [List.length_append, srt_len, List.length_take]; omega
              have e9 : E ++ mrg lt (srt lt ((l.drop E.length).take bs)) (srt lt (((l.drop E.length).drop bs).take bs)) ++ cs lt bs ((l.drop E.length).drop (2 * bs)) = E ++ srt lt ((l.drop E.length).take (2 * bs)) ++ cs lt bs (l.drop (E.length + 2 * bs)) := by rw [srt_two hC.ord, List.drop_drop]
              rw [e9] at S6
              refine ⟨E ++ srt lt ((l.drop E.length).take (2 * bs)), by omega, ⟨⟨by omega, by rw [hDl, ← List.drop_drop, List.append_assoc, ← cs_step (by omega) (by omega), hcs2]⟩, by rw [hDl]; exact S6⟩, ?_⟩
              exact (Sub.cons rfl (congrArg (Value.int _) (by first | omega | (simp; done) | (simp; omega))) (Sub.cons rfl (congrArg (Value.int _) (by first | omega | (simp; done) | (simp; omega))) (Sub.cons rfl rfl (Sub.cons rfl rfl (Sub.cons rfl rfl (Sub.cons rfl rfl (Sub.nil _)))))))
            ·
              refine T_exit ?_
              refine hK12 _ _ ?_
              refine T_seq fun K17 hK17 => ?_
              refine T_seq fun K18 hK18 => ?_
              refine T_region ?_
              refine L_y (y_move rfl) rfl ?_
              refine L_y (y_move rfl) rfl ?_
              refine L_y (y_add rfl rfl (i64w (by omega))) rfl ?_
              refine L_y (y_assign rfl) rfl ?_
              refine L_nil ?_
              refine hK18 _ _ ?_
              refine T_seq fun K19 hK19 => ?_
              refine T_region ?_
              refine L_y (y_move rfl) rfl ?_
              refine L_y (y_move rfl) rfl ?_
              refine L_y (y_lss rfl rfl) rfl ?_
              refine L_nil ?_
              refine hK19 _ _ ?_
              refine T_cond rfl (fun h54 => ?_) (fun h54 => ?_)
              ·
                rw [cs_one (by omega) (by omega) (by omega), show E ++ (srt lt ((l.drop E.length).take bs) ++ srt lt ((l.drop E.length).drop bs)) = E ++ srt lt ((l.drop E.length).take bs) ++ srt lt ((l.drop E.length).drop bs) ++ [] from by simp] at S5
                have k1 : (srt lt ((l.drop E.length).take bs)).length = bs := by rw [srt_len, List.length_take]; omega
                have k2 : (srt lt ((l.drop E.length).drop bs)).length = l.length - E.length - bs := by rw [srt_len, List.length_drop]; omega
                refine T_region ?_
                refine L_y (y_move rfl) rfl ?_
                refine L_y (y_move rfl) rfl ?_
                refine L_y (y_move rfl) rfl ?_
                refine L_y (y_move rfl) rfl ?_
                refine L_y (y_move rfl) rfl ?_
                refine L_o (o_call Try.func45 rfl rfl (symm hC hn5 E (srt lt ((l.drop E.length).take bs)) (srt lt ((l.drop E.length).drop bs)) [] _ _ _ w5 (S5.get 0 rfl) (by rw [List.length_append, List.length_append, List.length_append, List.length_nil]; omega) rfl (by omega) (by omega) (by omega) (by omega) (srt_sorted hC.ord _) (srt_sorted hC.ord _)) rfl rfl ?_)
                rintro e7 w7 ⟨v7, rfl, T7⟩
                refine ⟨_, rfl, ?_⟩
                have S7 := S5.turn 0 rfl T7
                have e9 : E ++ mrg lt (srt lt ((l.drop E.length).take bs)) (srt lt ((l.drop E.length).drop bs)) ++ [] = cs lt (2 * bs) l := by rw [srt_two' hC.ord, List.append_nil, ← cs_last (bs := 2 * bs) (by omega), hcs2]
                rw [e9] at S7
                refine L_nil ?_
                refine hK17 _ _ ?_
                refine T_region ?_
                refine L_y (y_move rfl) rfl ?_
                refine L_y (y_mul rfl rfl (i64w (by omega))) rfl ?_
                refine L_y (y_assign rfl) rfl ?_
                refine L_nil ?_
                refine ⟨2 * bs, by omega, ⟨by omega, S7⟩, ?_⟩
                exact (Sub.cons rfl (congrArg (Value.int _) (by omega)) (Sub.cons rfl rfl (Sub.cons rfl rfl (Sub.cons rfl rfl (Sub.nil _)))))
              ·
                rw [cs_last (bs := bs) (by omega), ← cs_last (bs := 2 * bs) (by omega), hcs2] at S5
                refine T_skip ?_
                refine hK17 _ _ ?_
                refine T_region ?_
                refine L_y (y_move rfl) rfl ?_
                refine L_y (y_mul rfl rfl (i64w (by omega))) rfl ?_
                refine L_y (y_assign rfl) rfl ?_
                refine L_nil ?_
                refine ⟨2 * bs, by omega, ⟨by omega, S5⟩, ?_⟩
                exact (Sub.cons rfl (congrArg (Value.int _) (by omega)) (Sub.cons rfl rfl (Sub.cons rfl rfl (Sub.cons rfl rfl (Sub.nil _)))))
        ·
          refine T_exit ?_
          first | refine end0 (fn := Try.f34) rfl ?_ | (simp only [thenQ, inB, if_true]; refine end0 (fn := Try.f34) rfl ?_)
          have h := S4.turned1 0 rfl
          rw [cs_last (by omega)] at h
          exact ⟨_, rfl, h⟩


set_option maxRecDepth 100000 in
theorem sortst (A : Option Addr) (n c : Nat) (l : List EV) (F : Nat) (lt : EV → EV → Bool) (w0 : World) (hw : (enR A c l).holds w0) (hC : CMP F lt) (hn : n = l.length) (hn5 : n ≤ 10000) :
    Calls Try.prog 24 #[.slice A n c, .func (.func F) #[] #[]] w0 fun e w' => ∃ u, e = .returned u ∧ Turned w0 w' (enR A c l) (enR A c (srt lt l)) := by
  refine enter1 (env := [(0, .slice A n c), (1, .func (.func F) #[] #[])]) [.slice A n c, .func (.func F) #[] #[]] Try.func24 rfl Try.ntmps24 rfl rfl ?_
  have S0 := St.borrow1 (enR A c l) hw (enR_lt hw)
  refine T_region ?_
  refine L_y (y_move rfl) rfl ?_
  refine L_y (y_move rfl) rfl ?_
  refine L_y (y_len Try.underlying22 rfl) rfl ?_
  refine L_y (y_move rfl) rfl ?_
  refine L_o (o_call Try.func34 rfl rfl (stabl A n c l F lt w0 (S0.get 0 rfl) hC hn hn5) rfl rfl ?_)
  rintro e1 w1 ⟨v1, rfl, T1⟩
  refine ⟨_, rfl, ?_⟩
  have S1 := S0.turn 0 rfl T1
  refine L_nil ?_
  first | refine end0 (fn := Try.f24) rfl ?_ | (simp only [thenQ, inB, if_true]; refine end0 (fn := Try.f24) rfl ?_)
  exact ⟨_, rfl, S1.turned1 0 rfl⟩
end Go.Proofs.Ytmgimcdkeelnpaa
