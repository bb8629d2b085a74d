import Derived.Test.YtmgimcdkeelnpaaMgMerges2
import Derived.Test.YtmgimcdkeelnpaaMgMerges1
import Derived.Lib.Bytealg
import Derived.Shelf.Small.Strs
import Derived.Shelf.Strings.Search1
import Derived.Shelf.Bytes.SlIndexAt
import Derived.Maps.Views
import Derived.StringKeys
import Derived.Test.YtmgimcdkeelnpaaRows
import Derived.Deep.CondSized
import Derived.JoinedCond
import Derived.RangeFuncSeq
import Derived.RangeFuncRecord
import Derived.Recover
import Derived.Laws.Small

/-
  SortStableFunc.
-/
namespace Go.Proofs.Ytmgimcdkeelnpaa
open Go.RowKit Zk Zx
set_option linter.unusedVariables false
set_option linter.unusedSimpArgs false

/-- Sorted in pieces of so many. -/
def cs (lt : EV → EV → Bool) (bs : Nat) (l : List EV) : List EV := if h : 0 < bs ∧ bs < l.length then srt lt (l.take bs) ++ cs lt bs (l.drop bs) else srt lt l
termination_by l.length
decreasing_by rw [List.length_drop]; omega
theorem cs_last {lt : EV → EV → Bool} {bs : Nat} {l : List EV} (h : l.length ≤ bs) : cs lt bs l = srt lt l := by rw [cs, dif_neg (by omega)]
theorem cs_step {lt : EV → EV → Bool} {bs : Nat} {l : List EV} (h0 : 0 < bs) (h : bs ≤ l.length) : cs lt bs l = srt lt (l.take bs) ++ cs lt bs (l.drop bs) := by
  rcases Nat.lt_or_ge bs l.length with q | q
  · rw [cs, dif_pos ⟨h0, q⟩]
  · have e : l.length = bs := by omega
    rw [cs_last (by omega), List.take_of_length_le (by omega), List.drop_of_length_le (by omega), cs_last (by simp)]
    simp [srt]
theorem cs_two {lt : EV → EV → Bool} {bs : Nat} {l : List EV} (h0 : 0 < bs) (h : 2 * bs ≤ l.length) : cs lt bs l = srt lt (l.take bs) ++ srt lt ((l.drop bs).take bs) ++ cs lt bs (l.drop (2 * bs)) := by
  rw [cs_step h0 (by omega), cs_step h0 (l := l.drop bs) (by rw [List.length_drop]; omega), List.drop_drop, List.append_assoc, show bs + bs = 2 * bs by omega]
theorem cs_one {lt : EV → EV → Bool} {bs : Nat} {l : List EV} (h0 : 0 < bs) (h : bs ≤ l.length) (h2 : l.length ≤ 2 * bs) : cs lt bs l = srt lt (l.take bs) ++ srt lt (l.drop bs) := by
  rw [cs_step h0 h, cs_last (by rw [List.length_drop]; omega)]
theorem srt_two {lt : EV → EV → Bool} (O : Ord3 lt) (l : List EV) (bs : Nat) : mrg lt (srt lt (l.take bs)) (srt lt ((l.drop bs).take bs)) = srt lt (l.take (2 * bs)) := by
  rw [mrg_srt O, show 2 * bs = bs + bs by omega, List.take_add]
theorem srt_two' {lt : EV → EV → Bool} (O : Ord3 lt) (l : List EV) (bs : Nat) : mrg lt (srt lt (l.take bs)) (srt lt (l.drop bs)) = srt lt l := by
  rw [mrg_srt O, List.take_append_drop]
theorem cs_len {lt : EV → EV → Bool} {bs : Nat} : ∀ (N : Nat) (l : List EV), l.length ≤ N → (cs lt bs l).length = l.length
  | N, l, h => by
    rw [cs]
    split
    · rename_i q
      match N, h with
      | 0, h => omega
      | N + 1, h =>
        rw [List.length_append, srt_len, cs_len N (l.drop bs) (by rw [List.length_drop]; omega), List.length_take, List.length_drop]
        omega
    · rw [srt_len]


set_option maxRecDepth 100000 in
theorem stabl (A : Option Addr) (n c : Nat) (l : List EV) (F : Nat) (lt : EV → EV → Bool) (w0 : World) (hw : (enR A c l).holds w0) (hC : CMP F lt) (hn : n = l.length) (hn5 : n ≤ 10000) :
    Calls Try.prog 34 #[.slice A n c, .int .i64 (n : Int), .func (.func F) #[] #[]] w0 fun e w' => ∃ u, e = .returned u ∧ Turned w0 w' (enR A c l) (enR A c (srt lt l)) := by
  refine enter1 (env := [(0, .slice A n c), (1, .int .i64 (n : Int)), (2, .func (.func F) #[] #[])]) [.slice A n c, .int .i64 (n : Int), .func (.func F) #[] #[]] Try.func34 rfl Try.ntmps34 rfl rfl ?_
  have S0 := St.borrow1 (enR A c l) hw (enR_lt hw)
  refine T_seq fun K1 hK1 => ?_
  refine T_region ?_
  refine L_y (y_assign rfl) rfl ?_
  refine L_nil ?_
  refine hK1 _ _ ?_
  refine T_seq fun K2 hK2 => ?_
  refine T_region ?_
  refine L_y (y_move rfl) rfl ?_
  refine L_y (y_assign rfl) rfl ?_
  refine L_y (y_assign rfl) rfl ?_
  refine L_nil ?_
  refine hK2 _ _ ?_
  refine T_seq fun K3 hK3 => ?_
  refine T_block ?_
  refine T_loop1 [(0, _), (1, _), (2, _), (6, _)] (fun (D : List EV) => [(7, .int .i64 (D.length : Int)), (8, .int .i64 ((D.length + 20 : Nat) : Int))]) (fun (D : List EV) => l.length - D.length) (fun (D : List EV) (w : World) => (D.length ≤ l.length ∧ D ++ cs lt 20 (l.drop D.length) = cs lt 20 l) ∧ St w0 (enR A c l).dom [enR A c (D ++ (l.drop D.length))] w) [] (Sub.cons rfl (by first | rfl | exact congrArg (Value.int _) (by omega)) (Sub.cons rfl (by first | rfl | exact congrArg (Value.int _) (by omega)) (Sub.nil _))) (Sub.cons rfl rfl (Sub.cons rfl rfl (Sub.cons rfl rfl (Sub.cons rfl rfl (Sub.nil _))))) ?_ ?_
  ·
    exact ⟨⟨Nat.zero_le _, rfl⟩, by simpa using S0⟩
  ·
    intro D w1 hrel
    obtain ⟨⟨hD, hcs⟩, S1⟩ := hrel
    have hRl : (l.drop D.length).length = l.length - D.length := List.length_drop
    refine T_seq fun K4 hK4 => ?_
    refine T_seq fun K5 hK5 => ?_
    refine T_region ?_
    refine L_y (y_move rfl) rfl ?_
    refine L_y (y_move rfl) rfl ?_
    refine L_y (y_leq rfl rfl) rfl ?_
    refine L_nil ?_
    refine hK5 _ _ ?_
    refine T_cond rfl (fun h13 => ?_) (fun h13 => ?_)
    ·
      rw [show D ++ (l.drop D.length) = D ++ (l.drop D.length).take 20 ++ (l.drop D.length).drop 20 from by rw [List.append_assoc, List.take_append_drop]] at S1
      refine T_skip ?_
      refine hK4 _ _ ?_
      refine T_block ?_
      refine T_seq fun K6 hK6 => ?_
      refine T_region ?_
      refine L_y (y_move rfl) rfl ?_
      refine L_y (y_move rfl) rfl ?_
      refine L_y (y_move rfl) rfl ?_
      refine L_y (y_move rfl) rfl ?_
      refine L_o (o_call Try.func44 rfl rfl (insor A n c _ _ D ((l.drop D.length).take 20) ((l.drop D.length).drop 20) F lt w1 (S1.get 0 rfl) hC (by simp; omega) rfl (by rw [List.length_take]; omega) (by omega)) rfl rfl ?_)
      rintro e2 w2 ⟨v2, rfl, T2⟩
      refine ⟨_, rfl, ?_⟩
      have S2 := S1.turn 0 rfl T2
      refine L_nil ?_
      refine hK6 _ _ ?_
      refine T_seq fun K7 hK7 => ?_
      refine T_region ?_
      refine L_y (y_move rfl) rfl ?_
      refine L_y (y_assign rfl) rfl ?_
      refine L_nil ?_
      refine hK7 _ _ ?_
      refine T_region ?_
      refine L_y (y_move rfl) rfl ?_
      refine L_y (y_move rfl) rfl ?_
      refine L_y (y_add rfl rfl (i64w (by omega))) rfl ?_
      refine L_y (y_assign rfl) rfl ?_
      refine L_nil ?_
      have hDl : (D ++ srt lt ((l.drop D.length).take 20)).length = D.length + 20 := by rw [List.length_append, srt_len, List.length_take]; omega
      rw [List.drop_drop] at S2
      refine ⟨D ++ srt lt ((l.drop D.length).take 20), by omega, ⟨⟨by omega, by rw [hDl, ← List.drop_drop, List.append_assoc, ← cs_step (by omega) (by omega), hcs]⟩, by rw [hDl]; exact S2⟩, ?_⟩
      exact (Sub.cons rfl (congrArg (Value.int _) (by omega)) (Sub.cons rfl (congrArg (Value.int _) (by omega)) (Sub.cons rfl rfl (Sub.cons rfl rfl (Sub.cons rfl rfl (Sub.cons rfl rfl (Sub.nil _)))))))
    ·
      rw [show D ++ (l.drop D.length) = D ++ (l.drop D.length) ++ [] from by simp] at S1
      refine T_exit ?_
      refine hK3 _ _ ?_
      refine T_seq fun K8 hK8 => ?_
      refine T_region ?_
      refine L_y (y_move rfl) rfl ?_
      refine L_y (y_move rfl) rfl ?_
      refine L_y (y_move rfl) rfl ?_
      refine L_y (y_move rfl) rfl ?_
      refine L_o (o_call Try.func44 rfl rfl (insor A n c _ _ D (l.drop D.length) [] F lt w1 (S1.get 0 rfl) hC (by simp; omega) rfl (by omega) (by omega)) rfl rfl ?_)
      rintro e3 w3 ⟨v3, rfl, T3⟩
      refine ⟨_, rfl, ?_⟩
      have S3 := S1.turn 0 rfl T3
      have e9 : D ++ srt lt (l.drop D.length) ++ [] = cs lt 20 l := by rw [List.append_nil, ← cs_last (bs := 20) (by omega), hcs]
      rw [e9] at S3
      refine L_nil ?_
      refine hK8 _ _ ?_
      refine T_block ?_
      refine T_loop1 [(0, _), (1, _), (2, _)] (fun (bs : Nat) => [(6, .int .i64 (bs : Int))]) (fun (bs : Nat) => n - bs) (fun (bs : Nat) (w : World) => (20 ≤ bs) ∧ St w0 (enR A c l).dom [enR A c (cs lt bs l)] w) 20 (Sub.cons rfl (by first | rfl | exact congrArg (Value.int _) (by omega)) (Sub.nil _)) (Sub.cons rfl rfl (Sub.cons rfl rfl (Sub.cons rfl rfl (Sub.nil _)))) ?_ ?_
      ·
        exact ⟨by omega, S3⟩
      ·
        intro bs w4 hrel
        obtain ⟨hbs, S4⟩ := hrel
        refine T_seq fun K9 hK9 => ?_
        refine T_seq fun K10 hK10 => ?_
        refine T_region ?_
        refine L_y (y_move rfl) rfl ?_
        refine L_y (y_move rfl) rfl ?_
        refine L_y (y_lss rfl rfl) rfl ?_
        refine L_nil ?_
        refine hK10 _ _ ?_
        refine T_cond rfl (fun h30 => ?_) (fun h30 => ?_)
        ·
          refine T_skip ?_
          refine hK9 _ _ ?_
          refine T_block ?_
          refine T_seq fun K11 hK11 => ?_
          refine T_region ?_
          refine L_y (y_move rfl) rfl ?_
          refine L_y (y_mul rfl rfl (i64w (by omega))) rfl ?_
          refine L_y (y_assign rfl) rfl ?_
          refine L_y (y_assign rfl) rfl ?_
          refine L_nil ?_
          refine hK11 _ _ ?_
          refine T_seq fun K12 hK12 => ?_
          refine T_block ?_
          refine T_loop1 [(0, _), (1, _), (2, _), (6, _)] (fun (E : List EV) => [(7, .int .i64 (E.length : Int)), (8, .int .i64 ((E.length + 2 * bs : Nat) : Int))]) (fun (E : List EV) => l.length - E.length) (fun (E : List EV) (w : World) => (E.length ≤ l.length ∧ E ++ cs lt (2 * bs) (l.drop E.length) = cs lt (2 * bs) l) ∧ St w0 (enR A c l).dom [enR A c (E ++ cs lt bs (l.drop E.length))] w) [] (Sub.cons rfl (by first | rfl | exact congrArg (Value.int _) (by first | omega | (simp; done) | (simp; omega))) (Sub.cons rfl (by first | rfl | exact congrArg (Value.int _) (by first | omega | (simp; done) | (simp; omega))) (Sub.nil _))) (Sub.cons rfl rfl (Sub.cons rfl rfl (Sub.cons rfl rfl (Sub.cons rfl rfl (Sub.nil _))))) ?_ ?_
          ·
            exact ⟨⟨Nat.zero_le _, rfl⟩, by simpa using S4⟩
          ·
            intro E w5 hrel
            obtain ⟨⟨hE, hcs2⟩, S5⟩ := hrel
            have hEl : (l.drop E.length).length = l.length - E.length := List.length_drop
            have hcl := cs_len (lt := lt) (bs := bs) _ (l.drop E.length) (Nat.le_refl _)
            refine T_seq fun K13 hK13 => ?_
            refine T_seq fun K14 hK14 => ?_
            refine T_region ?_
            refine L_y (y_move rfl) rfl ?_
            refine L_y (y_move rfl) rfl ?_
            refine L_y (y_leq rfl rfl) rfl ?_
            refine L_nil ?_
            refine hK14 _ _ ?_
            refine T_cond rfl (fun h35 => ?_) (fun h35 => ?_)
            ·
              rw [cs_two (by omega) (by omega), show E ++ (srt lt ((l.drop E.length).take bs) ++ srt lt (((l.drop E.length).drop bs).take bs) ++ cs lt bs ((l.drop E.length).drop (2 * bs))) = E ++ srt lt ((l.drop E.length).take bs) ++ srt lt (((l.drop E.length).drop bs).take bs) ++ cs lt bs ((l.drop E.length).drop (2 * bs)) from by simp] at S5
              have k1 : (srt lt ((l.drop E.length).take bs)).length = bs := by rw [srt_len, List.length_take]; omega
              have k2 : (srt lt (((l.drop E.length).drop bs).take bs)).length = bs := by rw [srt_len, List.length_take, List.length_drop]; omega
              have k3 := cs_len (lt := lt) (bs := bs) _ ((l.drop E.length).drop (2 * bs)) (Nat.le_refl _)
              rw [List.length_drop] at k3
              refine T_skip ?_
              refine hK13 _ _ ?_
              refine T_block ?_
              refine T_seq fun K15 hK15 => ?_
              refine T_region ?_
              refine L_y (y_move rfl) rfl ?_
              refine L_y (y_move rfl) rfl ?_
              refine L_y (y_move rfl) rfl ?_
              refine L_y (y_move rfl) rfl ?_
              refine L_y (y_add rfl rfl (i64w (by omega))) rfl ?_
              refine L_y (y_move rfl) rfl ?_
              refine L_y (y_move rfl) rfl ?_
              refine L_o (o_call Try.func45 rfl rfl (symm hC hn5 E (srt lt ((l.drop E.length).take bs)) (srt lt (((l.drop E.length).drop bs).take bs)) (cs lt bs ((l.drop E.length).drop (2 * bs))) _ _ _ w5 (S5.get 0 rfl) (by rw [List.length_append, List.length_append, List.length_append]; omega) rfl (by omega) (by omega) (by omega) (by omega) (srt_sorted hC.ord _) (srt_sorted hC.ord _)) rfl rfl ?_)
              rintro e6 w6 ⟨v6, rfl, T6⟩
              refine ⟨_, rfl, ?_⟩
              have S6 := S5.turn 0 rfl T6
              refine L_nil ?_
              refine hK15 _ _ ?_
              refine T_seq fun K16 hK16 => ?_
              refine T_region ?_
              refine L_y (y_move rfl) rfl ?_
              refine L_y (y_assign rfl) rfl ?_
              refine L_nil ?_
              refine hK16 _ _ ?_
              refine T_region ?_
              refine L_y (y_move rfl) rfl ?_
              refine L_y (y_move rfl) rfl ?_
              refine L_y (y_mul rfl rfl (i64w (by omega))) rfl ?_
              refine L_y (y_add rfl rfl (i64w (by omega))) rfl ?_
              refine L_y (y_assign rfl) rfl ?_
              refine L_nil ?_
              have hDl : (E ++ srt lt ((l.drop E.length).take (2 * bs))).length = E.length + 2 * bs := by rw [List.length_append, srt_len, List.length_take]; omega
              have e9 : E ++ mrg lt (srt lt ((l.drop E.length).take bs)) (srt lt (((l.drop E.length).drop bs).take bs)) ++ cs lt bs ((l.drop E.length).drop (2 * bs)) = E ++ srt lt ((l.drop E.length).take (2 * bs)) ++ cs lt bs (l.drop (E.length + 2 * bs)) := by rw [srt_two hC.ord, List.drop_drop]
              rw [e9] at S6
              refine ⟨E ++ srt lt ((l.drop E.length).take (2 * bs)), by omega, ⟨⟨by omega, by rw [hDl, ← List.drop_drop, List.append_assoc, ← cs_step (by omega) (by omega), hcs2]⟩, by rw [hDl]; exact S6⟩, ?_⟩
              exact (Sub.cons rfl (congrArg (Value.int _) (by first | omega | (simp; done) | (simp; omega))) (Sub.cons rfl (congrArg (Value.int _) (by first | omega | (simp; done) | (simp; omega))) (Sub.cons rfl rfl (Sub.cons rfl rfl (Sub.cons rfl rfl (Sub.cons rfl rfl (Sub.nil _)))))))
            ·
              refine T_exit ?_
              refine hK12 _ _ ?_
              refine T_seq fun K17 hK17 => ?_
              refine T_seq fun K18 hK18 => ?_
              refine T_region ?_
              refine L_y (y_move rfl) rfl ?_
              refine L_y (y_move rfl) rfl ?_
              refine L_y (y_add rfl rfl (i64w (by omega))) rfl ?_
              refine L_y (y_assign rfl) rfl ?_
              refine L_nil ?_
              refine hK18 _ _ ?_
              refine T_seq fun K19 hK19 => ?_
              refine T_region ?_
              refine L_y (y_move rfl) rfl ?_
              refine L_y (y_move rfl) rfl ?_
              refine L_y (y_lss rfl rfl) rfl ?_
              refine L_nil ?_
              refine hK19 _ _ ?_
              refine T_cond rfl (fun h54 => ?_) (fun h54 => ?_)
              ·
                rw [cs_one (by omega) (by omega) (by omega), show E ++ (srt lt ((l.drop E.length).take bs) ++ srt lt ((l.drop E.length).drop bs)) = E ++ srt lt ((l.drop E.length).take bs) ++ srt lt ((l.drop E.length).drop bs) ++ [] from by simp] at S5
                have k1 : (srt lt ((l.drop E.length).take bs)).length = bs := by rw [srt_len, List.length_take]; omega
                have k2 : (srt lt ((l.drop E.length).drop bs)).length = l.length - E.length - bs := by rw [srt_len, List.length_drop]; omega
                refine T_region ?_
                refine L_y (y_move rfl) rfl ?_
                refine L_y (y_move rfl) rfl ?_
                refine L_y (y_move rfl) rfl ?_
                refine L_y (y_move rfl) rfl ?_
                refine L_y (y_move rfl) rfl ?_
                refine L_o (o_call Try.func45 rfl rfl (symm hC hn5 E (srt lt ((l.drop E.length).take bs)) (srt lt ((l.drop E.length).drop bs)) [] _ _ _ w5 (S5.get 0 rfl) (by rw [List.length_append, List.length_append, List.length_append, List.length_nil]; omega) rfl (by omega) (by omega) (by omega) (by omega) (srt_sorted hC.ord _) (srt_sorted hC.ord _)) rfl rfl ?_)
                rintro e7 w7 ⟨v7, rfl, T7⟩
                refine ⟨_, rfl, ?_⟩
                have S7 := S5.turn 0 rfl T7
                have e9 : E ++ mrg lt (srt lt ((l.drop E.length).take bs)) (srt lt ((l.drop E.length).drop bs)) ++ [] = cs lt (2 * bs) l := by rw [srt_two' hC.ord, List.append_nil, ← cs_last (bs := 2 * bs) (by omega), hcs2]
                rw [e9] at S7
                refine L_nil ?_
                refine hK17 _ _ ?_
                refine T_region ?_
                refine L_y (y_move rfl) rfl ?_
                refine L_y (y_mul rfl rfl (i64w (by omega))) rfl ?_
                refine L_y (y_assign rfl) rfl ?_
                refine L_nil ?_
                refine ⟨2 * bs, by omega, ⟨by omega, S7⟩, ?_⟩
                exact (Sub.cons rfl (congrArg (Value.int _) (by omega)) (Sub.cons rfl rfl (Sub.cons rfl rfl (Sub.cons rfl rfl (Sub.nil _)))))
              ·
                rw [cs_last (bs := bs) (by omega), ← cs_last (bs := 2 * bs) (by omega), hcs2] at S5
                refine T_skip ?_
                refine hK17 _ _ ?_
                refine T_region ?_
                refine L_y (y_move rfl) rfl ?_
                refine L_y (y_mul rfl rfl (i64w (by omega))) rfl ?_
                refine L_y (y_assign rfl) rfl ?_
                refine L_nil ?_
                refine ⟨2 * bs, by omega, ⟨by omega, S5⟩, ?_⟩
                exact (Sub.cons rfl (congrArg (Value.int _) (by omega)) (Sub.cons rfl rfl (Sub.cons rfl rfl (Sub.cons rfl rfl (Sub.nil _)))))
        ·
          refine T_exit ?_
          first | refine end0 (fn := Try.f34) rfl ?_ | (simp only [thenQ, inB, if_true]; refine end0 (fn := Try.f34) rfl ?_)
          have h := S4.turned1 0 rfl
          rw [cs_last (by omega)] at h
          exact ⟨_, rfl, h⟩


set_option maxRecDepth 100000 in
theorem sortst (A : Option Addr) (n c : Nat) (l : List EV) (F : Nat) (lt : EV → EV → Bool) (w0 : World) (hw : (enR A c l).holds w0) (hC : CMP F lt) (hn : n = l.length) (hn5 : n ≤ 10000) :
    Calls Try.prog 24 #[.slice A n c, .func (.func F) #[] #[]] w0 fun e w' => ∃ u, e = .returned u ∧ Turned w0 w' (enR A c l) (enR A c (srt lt l)) := by
  refine enter1 (env := [(0, .slice A n c), (1, .func (.func F) #[] #[])]) [.slice A n c, .func (.func F) #[] #[]] Try.func24 rfl Try.ntmps24 rfl rfl ?_
  have S0 := St.borrow1 (enR A c l) hw (enR_lt hw)
  refine T_region ?_
  refine L_y (y_move rfl) rfl ?_
  refine L_y (y_move rfl) rfl ?_
  refine L_y (y_len Try.underlying22 rfl) rfl ?_
  refine L_y (y_move rfl) rfl ?_
  refine L_o (o_call Try.func34 rfl rfl (stabl A n c l F lt w0 (S0.get 0 rfl) hC hn hn5) rfl rfl ?_)
  rintro e1 w1 ⟨v1, rfl, T1⟩
  refine ⟨_, rfl, ?_⟩
  have S1 := S0.turn 0 rfl T1
  refine L_nil ?_
  first | refine end0 (fn := Try.f24) rfl ?_ | (simp only [thenQ, inB, if_true]; refine end0 (fn := Try.f24) rfl ?_)
  exact ⟨_, rfl, S1.turned1 0 rfl⟩
end Go.Proofs.Ytmgimcdkeelnpaa


/-
  The order of bytes' lists. General; nothing here names a program.
-/
namespace Go.Proofs.Ytmgimcdkeelnpaa.Zx
open Go.RowKit Zk
set_option linter.unusedVariables false
/-- a before b. -/
def bl (a b : List UInt8) : Bool := Op.bytesLess a b
theorem sLt_eq (a b : List UInt8) : sLt ⟨a.toArray⟩ ⟨b.toArray⟩ = bl a b := by
  unfold sLt
  rw [toList_eq, toList_eq]
  rfl
theorem bl_nil (a : List UInt8) : bl a [] = false := by cases a <;> rfl
theorem bl_cons (x y : UInt8) (a b : List UInt8) : bl (x :: a) (y :: b) = (decide (x < y) || (x == y && bl a b)) := rfl
theorem bl_irr : ∀ a, bl a a = false
  | [] => rfl
  | x :: a => by rw [bl_cons, bl_irr a]; simp
theorem bl_trans : ∀ a b c, bl a b = true → bl b c = true → bl a c = true
  | _, [], _, h, _ => by rw [bl_nil] at h; cases h
  | _, _ :: _, [], _, h => by rw [bl_nil] at h; cases h
  | [], _ :: _, _ :: _, _, _ => rfl
  | x :: a, y :: b, z :: c, h1, h2 => by
    rw [bl_cons] at h1 h2 ⊢
    simp only [Bool.or_eq_true, decide_eq_true_eq, Bool.and_eq_true, beq_iff_eq] at h1 h2 ⊢
    rcases h1 with h1 | ⟨h1, h3⟩
    · rcases h2 with h2 | ⟨h2, h4⟩
      · exact .inl (UInt8.lt_trans h1 h2)
      · subst h2; exact .inl h1
    · subst h1
      rcases h2 with h2 | ⟨h2, h4⟩
      · exact .inl h2
      · exact .inr ⟨h2, bl_trans a b c h3 h4⟩
theorem bl_total : ∀ a b, bl a b = false → a ≠ b → bl b a = true
  | [], [], _, h => absurd rfl h
  | [], _ :: _, h, _ => by cases h
  | _ :: _, [], _, _ => rfl
  | x :: a, y :: b, h, hn => by
    rw [bl_cons] at h ⊢
    simp only [Bool.or_eq_false_iff, decide_eq_false_iff_not, Bool.and_eq_false_iff, beq_eq_false_iff_ne] at h
    simp only [Bool.or_eq_true, decide_eq_true_eq, Bool.and_eq_true, beq_iff_eq]
    by_cases hxy : x = y
    · subst hxy
      rcases h.2 with h2 | h2
      · exact absurd rfl h2
      · exact .inr ⟨rfl, bl_total a b h2 (fun e => hn (by rw [e]))⟩
    · left
      rcases UInt8.lt_or_lt_of_ne hxy with h3 | h3
      · exact absurd h3 h.1
      · exact h3
theorem bl_ntrans (x y z : List UInt8) (h1 : bl x y = false) (h2 : bl y z = false) : bl x z = false := by
  cases h3 : bl x z
  · rfl
  · exfalso
    by_cases e1 : x = y
    · subst e1; rw [h3] at h2; cases h2
    · have h4 := bl_total x y h1 e1
      have h5 := bl_trans _ _ _ h4 h3
      rw [h5] at h2
      cases h2
theorem cmp_bl : ∀ a b : List UInt8, decide (Lib.compareBytes a b < 0) = bl a b
  | [], [] => rfl
  | [], _ :: _ => rfl
  | _ :: _, [] => rfl
  | x :: a, y :: b => by
    rw [bl_cons, Lib.compareBytes]
    by_cases h1 : x < y
    · simp [h1]
    · by_cases h2 : y < x
      · have h3 : x ≠ y := fun e => by subst e; exact h1 h2
        simp [h1, h2, h3]
      · have h3 : x = y := by
          rcases Classical.em (x = y) with h | h
          · exact h
          · rcases UInt8.lt_or_lt_of_ne h with h4 | h4
            · exact (h1 h4).elim
            · exact (h2 h4).elim
        subst h3
        have ih := cmp_bl a b
        rw [if_neg h1, if_neg h1, ih]
        simp [h1]
theorem ordBl {α : Type} (key : α → List UInt8) : Ord3 fun x y => bl (key x) (key y) where
  asym x y h := by
    cases h2 : bl (key y) (key x) with
    | false => rfl
    | true =>
      have := bl_trans _ _ _ h h2
      rw [bl_irr] at this
      cases this
  nt x y z h1 h2 := bl_ntrans _ _ _ h1 h2
end Go.Proofs.Ytmgimcdkeelnpaa.Zx


/-
  The orders.
-/
namespace Go.Proofs.Ytmgimcdkeelnpaa
open Go.RowKit Zk Zx
set_option linter.unusedVariables false
set_option linter.unusedSimpArgs false
/-- Where the library's parts lie here. -/
def strCmp_ren : Go.Shelf.Ren := ⟨fun | 106 => 35 | 213 => 46 | 265 => 53 | n => n, fun | 9 => 9 | 3 => 3 | n => n, fun | n => n⟩
theorem strCmp : Go.Proofs.Lays.n106 Try.prog strCmp_ren := {
  mixed := by kernel_rfl,
  f106 := Try.func35.trans (congrArg some (by kernel_rfl)),
  f213 := Try.func46.trans (congrArg some (by kernel_rfl)),
  f265 := Try.func53.trans (congrArg some (by kernel_rfl)),
  t3 := Try.underlying3,
  a3 := Try.isAgg3,
  z3 := Try.sizeOf3,
  v3 := Try.zeroValue3,
  t9 := Try.underlying9,
  a9 := Try.isAgg9,
  z9 := Try.sizeOf9,
  v9 := Try.zeroValue9 }
def idxS_ren : Go.Shelf.Ren := ⟨fun | 217 => 61 | 266 => 66 | n => n, fun | 9 => 9 | 5 => 5 | 3 => 3 | n => n, fun | n => n⟩
theorem idxS : Go.Proofs.Lays.n217 Try.prog idxS_ren := {
  mixed := by kernel_rfl,
  f217 := Try.func61.trans (congrArg some (by kernel_rfl)),
  f266 := Try.func66.trans (congrArg some (by kernel_rfl)),
  t3 := Try.underlying3,
  a3 := Try.isAgg3,
  z3 := Try.sizeOf3,
  v3 := Try.zeroValue3,
  t5 := Try.underlying5,
  a5 := Try.isAgg5,
  z5 := Try.sizeOf5,
  v5 := Try.zeroValue5,
  t9 := Try.underlying9,
  a9 := Try.isAgg9,
  z9 := Try.sizeOf9,
  v9 := Try.zeroValue9 }
theorem sLt_bl (a b : ByteArray) : sLt a b = bl a.data.toList b.data.toList := by
  have h := sLt_eq a.data.toList b.data.toList
  rw [Array.toArray_toList, Array.toArray_toList] at h
  exact h
def keyB (e : EV) : ByteArray := if e.md = 3 then e.nm ++ ⟨#[47]⟩ else e.nm
def ltK (x y : EV) : Bool := sLt (keyB x) (keyB y)
def ltN (x y : EV) : Bool := sLt x.nm y.nm
theorem ordK : Ord3 ltK := by
  have h := ordBl fun e : EV => (keyB e).data.toList
  have e : ltK = fun x y => bl (keyB x).data.toList (keyB y).data.toList := by funext x y; exact sLt_bl _ _
  rw [e]
  exact h
theorem ordN : Ord3 ltN := by
  have h := ordBl fun e : EV => e.nm.data.toList
  have e : ltN = fun x y => bl x.nm.data.toList y.nm.data.toList := by funext x y; exact sLt_bl _ _
  rw [e]
  exact h
theorem compar (a b : ByteArray) (w0 : World) : Calls Try.prog 35 #[.string a, .string b] w0 fun e w' => ∃ u, e = .returned u ∧ Like w0 w' ∧ ∃ v : Int, u = .int .i64 v ∧ (v < 0 ↔ sLt a b = true) :=
  (show Calls Try.prog 35 _ _ _ from Any.strings_Compare strCmp a b w0).mono fun e w' ⟨h1, h2⟩ => by
    subst h2
    refine ⟨_, h1, Like.refl _, _, rfl, ?_⟩
    rw [sLt_bl, ← cmp_bl]
    exact decide_eq_true_iff.symm


set_option maxRecDepth 100000 in
theorem key (x : EV) (w0 : World)  :
    Calls Try.prog 36 #[.agg (enf x).toArray] w0 fun e w' => ∃ u, e = .returned u ∧ Like w0 w' ∧ u = .string (keyB x) := by
  refine enter1 (env := [(0, .agg (enf x).toArray)]) [.agg (enf x).toArray] Try.func36 rfl Try.ntmps36 rfl rfl ?_
  have S0 := St.start w0 noM; have hsz := x.h.2; have h1z : (⟨#[47]⟩ : ByteArray).size = 1 := rfl
  refine T_seq fun K1 hK1 => ?_
  refine T_region ?_
  refine L_o (o_box rfl S0 rfl fun b1 w1 hb1 S1 => ?_)
  refine L_y (y_assign rfl) rfl ?_
  refine L_nil ?_
  refine hK1 _ _ ?_
  refine T_seq fun K2 hK2 => ?_
  refine T_seq fun K3 hK3 => ?_
  refine T_region ?_
  refine L_y (y_fieldA 1 Try.underlying39 rfl sz3 rfl rfl rfl) rfl ?_
  refine L_y (y_ldc Try.underlying3 rfl rfl (((S1.blk 0 rfl).cell _).trans (by rfl))) rfl ?_
  refine L_y (y_eql rfl rfl) rfl ?_
  refine L_nil ?_
  refine hK3 _ _ ?_
  refine T_cond rfl (fun h5 => ?_) (fun h5 => ?_)
  ·
    refine T_seq fun K4 hK4 => ?_
    refine T_region ?_
    refine L_y (y_fieldA 0 Try.underlying39 rfl sz9 rfl rfl rfl) rfl ?_
    refine L_y (y_ldc Try.underlying9 rfl rfl (((S1.blk 0 rfl).cell _).trans (by rfl))) rfl ?_
    refine L_y (y_cat rfl rfl (by omega)) rfl ?_
    refine L_y (y_assign rfl) rfl ?_
    refine L_nil ?_
    refine hK4 _ _ ?_
    refine T_ret ?_
    refine ur ?_
    refine ret1 rfl rfl ?_
    first | exact ⟨_, rfl, S1.like0, by unfold keyB; rw [if_pos (by omega)]⟩ | exact ⟨_, rfl, S1.like0, by unfold keyB; rw [if_neg (by omega)]; rfl⟩
  ·
    refine T_skip ?_
    refine hK2 _ _ ?_
    refine T_seq fun K5 hK5 => ?_
    refine T_region ?_
    refine L_y (y_fieldA 0 Try.underlying39 rfl sz9 rfl rfl rfl) rfl ?_
    refine L_y (y_ldc Try.underlying9 rfl rfl (((S1.blk 0 rfl).cell _).trans (by rfl))) rfl ?_
    refine L_y (y_assign rfl) rfl ?_
    refine L_nil ?_
    refine hK5 _ _ ?_
    refine T_ret ?_
    refine ur ?_
    refine ret1 rfl rfl ?_
    first | exact ⟨_, rfl, S1.like0, by unfold keyB; rw [if_pos (by omega)]⟩ | exact ⟨_, rfl, S1.like0, by unfold keyB; rw [if_neg (by omega)]; rfl⟩


set_option maxRecDepth 100000 in
theorem order (x y : EV) (w0 : World)  :
    Calls Try.prog 25 #[.agg (enf x).toArray, .agg (enf y).toArray] w0 fun e w' => ∃ u, e = .returned u ∧ Like w0 w' ∧ ∃ v : Int, u = .int .i64 v ∧ (v < 0 ↔ ltK x y = true) := by
  refine enter1 (env := [(0, .agg (enf x).toArray), (1, .agg (enf y).toArray)]) [.agg (enf x).toArray, .agg (enf y).toArray] Try.func25 rfl Try.ntmps25 rfl rfl ?_
  have S0 := St.start w0 noM
  refine T_seq fun K1 hK1 => ?_
  refine T_region ?_
  refine L_o (o_box rfl S0 rfl fun b1 w1 hb1 S1 => ?_)
  refine L_o (o_box rfl S1 rfl fun b2 w2 hb2 S2 => ?_)
  refine L_y (y_assign rfl) rfl ?_
  refine L_nil ?_
  refine hK1 _ _ ?_
  refine T_seq fun K2 hK2 => ?_
  refine T_drawnX (fun w => Blk w b1 39 (enf x).toArray ∧ Blk w b2 39 (enf y).toArray) hmix (by kernel_rfl) (fun w l => ⟨(S2.like l).blk 0 rfl, (S2.like l).blk 1 rfl⟩) fun w3 l3 => ?_
  have S3 := S2.like l3
  refine DX_y 0 (by kernel_rfl) rfl (y_of fun w hw => y_ldW Try.underlying39 rfl sz39 rfl (hw.1) (show _ = enf x ∧ _ from ⟨take_enf x, enf_len x⟩)) rfl ?_
  refine DX_y 2 (by kernel_rfl) rfl (y_of fun w hw => y_ldW Try.underlying39 rfl sz39 rfl (hw.2) (show _ = enf y ∧ _ from ⟨take_enf y, enf_len y⟩)) rfl ?_
  refine DX_o1 1 (by kernel_rfl) rfl ?_
  refine o_call Try.func36 rfl rfl (key x w3) rfl rfl ?_
  rintro e4 w4 ⟨v4, rfl, l4, rfl⟩
  refine ⟨_, rfl, ?_⟩
  have S4 := S3.like l4
  refine ⟨⟨S4.blk 0 rfl, S4.blk 1 rfl⟩, ?_⟩
  refine DX_o1 3 (by kernel_rfl) rfl ?_
  refine o_call Try.func36 rfl rfl (key y w4) rfl rfl ?_
  rintro e5 w5 ⟨v5, rfl, l5, rfl⟩
  refine ⟨_, rfl, ?_⟩
  have S5 := S4.like l5
  refine ⟨⟨S5.blk 0 rfl, S5.blk 1 rfl⟩, ?_⟩
  refine DX_o1 4 (by kernel_rfl) rfl ?_
  refine o_call Try.func35 rfl rfl (compar _ _ w5) rfl rfl ?_
  rintro e6 w6 ⟨v6, rfl, l6, v9, rfl, hv9⟩
  refine ⟨_, rfl, ?_⟩
  have S6 := S5.like l6
  refine ⟨⟨S6.blk 0 rfl, S6.blk 1 rfl⟩, ?_⟩
  refine DX_y 5 (by kernel_rfl) rfl (y_assign rfl) rfl ?_
  refine DX_nil (by kernel_rfl) ?_
  refine hK2 _ _ ?_
  refine T_ret ?_
  refine ur ?_
  refine ret1 rfl rfl ?_
  exact ⟨_, rfl, S6.like0, v9, rfl, hv9⟩


set_option maxRecDepth 100000 in
theorem bynam (x y : EV) (w0 : World)  :
    Calls Try.prog 48 #[.agg (enf x).toArray, .agg (enf y).toArray] w0 fun e w' => ∃ u, e = .returned u ∧ Like w0 w' ∧ ∃ v : Int, u = .int .i64 v ∧ (v < 0 ↔ ltN x y = true) := by
  refine enter1 (env := [(0, .agg (enf x).toArray), (1, .agg (enf y).toArray)]) [.agg (enf x).toArray, .agg (enf y).toArray] Try.func48 rfl Try.ntmps48 rfl rfl ?_
  have S0 := St.start w0 noM
  refine T_seq fun K1 hK1 => ?_
  refine T_region ?_
  refine L_o (o_box rfl S0 rfl fun b1 w1 hb1 S1 => ?_)
  refine L_o (o_box rfl S1 rfl fun b2 w2 hb2 S2 => ?_)
  refine L_y (y_assign rfl) rfl ?_
  refine L_nil ?_
  refine hK1 _ _ ?_
  refine T_seq fun K2 hK2 => ?_
  refine T_region ?_
  refine L_y (y_fieldA 0 Try.underlying39 rfl sz9 rfl rfl rfl) rfl ?_
  refine L_y (y_ldc Try.underlying9 rfl rfl (((S2.blk 0 rfl).cell _).trans (by rfl))) rfl ?_
  refine L_y (y_fieldA 0 Try.underlying39 rfl sz9 rfl rfl rfl) rfl ?_
  refine L_y (y_ldc Try.underlying9 rfl rfl (((S2.blk 1 rfl).cell _).trans (by rfl))) rfl ?_
  refine L_o (o_call Try.func35 rfl rfl (compar _ _ w2) rfl rfl ?_)
  rintro e3 w3 ⟨v3, rfl, l3, v9, rfl, hv9⟩
  refine ⟨_, rfl, ?_⟩
  have S3 := S2.like l3
  refine L_y (y_assign rfl) rfl ?_
  refine L_nil ?_
  refine hK2 _ _ ?_
  refine T_ret ?_
  refine ur ?_
  refine ret1 rfl rfl ?_
  exact ⟨_, rfl, S3.like0, v9, rfl, hv9⟩


theorem cmpK : CMP 25 ltK := ⟨ordK, ⟨_, Try.func25, by kernel_rfl, by kernel_rfl⟩, fun x y w => order x y w⟩
theorem cmpN : CMP 48 ltN := ⟨ordN, ⟨_, Try.func48, by kernel_rfl, by kernel_rfl⟩, fun x y w => bynam x y w⟩
end Go.Proofs.Ytmgimcdkeelnpaa


/-
  Clone, Sorted.
-/
namespace Go.Proofs.Ytmgimcdkeelnpaa
open Go.RowKit Zk Zx
set_option linter.unusedVariables false
set_option linter.unusedSimpArgs false

theorem rs_nil {w : World} {A : Option Addr} {n c : Nat} {l : List EV} (hl : Rs w 34 A n c (l.flatMap enf)) (h : A = none) : l = [] := by
  subst h
  have h2 := ens_n hl
  rcases Nat.eq_zero_or_pos n with q | q
  · exact List.eq_nil_of_length_eq_zero (by omega)
  · obtain ⟨_, h2, _⟩ := hl.rd.2 q
    cases h2
set_option maxRecDepth 100000 in
theorem clone (A : Option Addr) (c : Nat) (l : List EV) (w0 : World) (hl : Rs w0 34 A l.length c (l.flatMap enf)) (hn5 : l.length ≤ 10000) :
    Calls Try.prog 23 #[.slice A l.length c] w0 fun e w' => ∃ u, e = .returned u ∧ Like w0 w' ∧ ∃ A' c', u = .slice A' l.length c' ∧ w'.ownsRow w0.heap.size 39 34 (.slice A' l.length c') l.length (l.flatMap enf) := by
  refine enter1 (env := [(0, .slice A l.length c)]) [.slice A l.length c] Try.func23 rfl Try.ntmps23 rfl rfl ?_
  have hcap := hl.cap; have hmax := hl.max; have S0 := St.start w0 noM
  refine T_seq fun K1 hK1 => ?_
  refine T_region ?_
  refine L_y (y_assign rfl) rfl ?_
  refine L_nil ?_
  refine hK1 _ _ ?_
  refine T_seq fun K2 hK2 => ?_
  refine T_seq fun K3 hK3 => ?_
  refine T_region ?_
  refine L_y (y_move rfl) rfl ?_
  refine L_y (y_seqn Try.underlying22 rfl) rfl ?_
  refine L_nil ?_
  refine hK3 _ _ ?_
  refine T_condB rfl (fun h4 => ?_) (fun h4 => ?_)
  ·
    refine T_seq fun K4 hK4 => ?_
    refine T_region ?_
    refine L_y (y_assign rfl) rfl ?_
    refine L_nil ?_
    refine hK4 _ _ ?_
    refine T_ret ?_
    refine ur ?_
    refine ret1 rfl rfl ?_
    first | exact ⟨_, rfl, S0.like0, _, _, by rw [Nat.zero_add], by have h9 := S0.own 0 rfl; rw [Nat.zero_add] at h9; exact h9⟩ | (have hz := rs_nil hl (by simpa using h4); subst hz; exact ⟨_, rfl, S0.like0, none, 0, rfl, World.ownsRow_nil _ _ _ _⟩)
  ·
    refine T_skip ?_
    refine hK2 _ _ ?_
    refine T_seq fun K5 hK5 => ?_
    refine T_region ?_
    refine L_o (o_bsl0 te22 S0 rfl fun b1 w1 l1 S1 => ?_)
    refine L_y (y_move rfl) rfl ?_
    refine L_o (o_app te22 S1 0 rfl rfl rfl (S1.rd hl) (ens_one _) rfl (by omega) (by omega) fun A2 c2 w2 S2 => ?_)
    refine L_y (y_assign rfl) rfl ?_
    refine L_nil ?_
    refine hK5 _ _ ?_
    refine T_ret ?_
    refine ur ?_
    refine ret1 rfl rfl ?_
    first | exact ⟨_, rfl, S2.like0, _, _, by rw [Nat.zero_add], by have h9 := S2.own 0 rfl; rw [Nat.zero_add] at h9; exact h9⟩ | (have hz := rs_nil hl (by simpa using h4); subst hz; exact ⟨_, rfl, S2.like0, none, 0, rfl, World.ownsRow_nil _ _ _ _⟩)


set_option maxRecDepth 100000 in
theorem psorted (A : Option Addr) (c : Nat) (l : List EV) (w0 : World) (hl : Rs w0 34 A l.length c (l.flatMap enf)) (hn5 : l.length ≤ 10000) :
    Calls Try.prog 9 #[.slice A l.length c] w0 fun e w' => ∃ u, e = .returned u ∧ Like w0 w' ∧ ∃ A' c', u = .slice A' (srt ltK l).length c' ∧ w'.ownsRow w0.heap.size 39 34 (.slice A' (srt ltK l).length c') (srt ltK l).length ((srt ltK l).flatMap enf) := by
  refine enter1 (env := [(0, .slice A l.length c)]) [.slice A l.length c] Try.func9 rfl Try.ntmps9 rfl rfl ?_
  have hcap := hl.cap; have hmax := hl.max; have S0 := St.start w0 noM
  refine T_seq fun K1 hK1 => ?_
  refine T_region ?_
  refine L_y (y_assign rfl) rfl ?_
  refine L_nil ?_
  refine hK1 _ _ ?_
  refine T_seq fun K2 hK2 => ?_
  refine T_region ?_
  refine L_y (y_move rfl) rfl ?_
  refine L_o (o_call Try.func23 rfl rfl (clone A c l w0 (S0.rd hl) hn5) rfl rfl ?_)
  rintro e1 w1 ⟨v1, rfl, l1, A5, c5, rfl, O1⟩
  refine ⟨_, rfl, ?_⟩
  have S1 := S0.adopt l1 O1
  refine L_y (y_assign rfl) rfl ?_
  refine L_nil ?_
  refine hK2 _ _ ?_
  refine T_seq fun K3 hK3 => ?_
  refine T_region ?_
  refine L_y (y_move rfl) rfl ?_
  refine L_o (o_call Try.func24 rfl rfl (sortst A5 l.length c5 l 25 ltK w1 (S1.get 0 rfl) cmpK rfl hn5) rfl rfl ?_)
  rintro e2 w2 ⟨v2, rfl, T2⟩
  refine ⟨_, rfl, ?_⟩
  have S2 := S1.turn 0 rfl T2
  refine L_nil ?_
  refine hK3 _ _ ?_
  refine T_seq fun K4 hK4 => ?_
  refine T_region ?_
  refine L_y (y_move rfl) rfl ?_
  refine L_y (y_assign rfl) rfl ?_
  refine L_nil ?_
  refine hK4 _ _ ?_
  refine T_ret ?_
  refine ur ?_
  refine ret1 rfl rfl ?_
  exact ⟨_, rfl, S2.like0, A5, c5, by rw [srt_len], S2.own 0 rfl⟩


end Go.Proofs.Ytmgimcdkeelnpaa


/-
  '==' on structs of any plain fields. General; nothing here names a program.
-/
namespace Go.Proofs.Ytmgimcdkeelnpaa.Zx
open Go.RowKit Zk
set_option linter.unusedVariables false
set_option linter.unusedSimpArgs false
section
variable {P : Program}
/-- What '==' says of one field. -/
def FE (P : Program) (d : Nat) (xs ys : Array Value) (f : Field) (b : Bool) : Prop :=
  f.name ≠ "_" ∧ ∃ vx vy, (∀ w, (part f.type xs f.offset).run P w = .ok vx w) ∧ (∀ w, (part f.type ys f.offset).run P w = .ok vy w) ∧ (∀ w, (Op.equalIn d f.type vx vy).run P w = .ok b w)
inductive EqFs (P : Program) (d : Nat) (xs ys : Array Value) : List Field → Bool → Prop
  | nil : EqFs P d xs ys [] true
  | cons {f : Field} {fs : List Field} {b r : Bool} : FE P d xs ys f b → EqFs P d xs ys fs r → EqFs P d xs ys (f :: fs) (b && r)
theorem EqFs.run {d : Nat} {xs ys : Array Value} : ∀ {fs : List Field} {r : Bool}, EqFs P d xs ys fs r → ∀ w, (Op.eqFields d xs ys fs).run P w = .ok r w
  | _, _, .nil, w => rfl
  | _, _, .cons (f := f) (fs := fs) (b := b) (r := r) ⟨hn, vx, vy, h1, h2, h3⟩ h, w => by
    rw [Op.eqFields, if_pos hn, Sem.run_bind, h1 w, Result.andThen_ok, Sem.run_bind, h2 w, Result.andThen_ok, Sem.run_bind, h3 w, Result.andThen_ok]
    cases b with
    | true =>
      simp only [Bool.not_true, Bool.false_eq_true, if_false]
      rw [h.run w]
      rfl
    | false =>
      simp only [Bool.not_false, if_true, Sem.run_pure]
      rfl
theorem run_part_one {t : TypeId} {cs : Array Value} {o : Nat} {v : Value} (ha : ∀ w, (isAgg t).run P w = .ok false w) (hv : cs[o]? = some v) (w : World) : (part t cs o).run P w = .ok v w := by
  unfold part
  rw [Sem.run_bind, ha w]
  simp only [Result.andThen_ok, Bool.false_eq_true, if_false, hv, Sem.run_pure]
theorem run_part_agg {t : TypeId} {cs vs : Array Value} {o n : Nat} (ha : ∀ w, (isAgg t).run P w = .ok true w) (hs : ∀ w, (sizeOf t).run P w = .ok n w) (hv : cs.extract o (o + n) = vs) (w : World) : (part t cs o).run P w = .ok (.agg vs) w := by
  unfold part
  rw [Sem.run_bind, ha w]
  simp only [Result.andThen_ok, if_true, Sem.run_bind, hs w, Sem.run_pure, hv]
theorem FE_str {d : Nat} {xs ys : Array Value} {f : Field} {a b : ByteArray} (hn : f.name ≠ "_") (ht : P.underlying f.type = some .string) (hx : xs[f.offset]? = some (.string a)) (hy : ys[f.offset]? = some (.string b)) : FE P (d + 1) xs ys f (decide (a = b)) := by
  have ha : ∀ w, (isAgg f.type).run P w = .ok false w := fun w => by unfold isAgg; rw [Sem.run_bind, run_underlying ht w]; rfl
  refine ⟨hn, _, _, run_part_one ha hx, run_part_one ha hy, fun w => ?_⟩
  simp only [Op.equalIn, Sem.run_bind, run_underlying ht, Result.andThen_ok, Sem.run_pure]
  congr 1
  rw [beq_toListBytes, beq_str]
theorem FE_int {d : Nat} {xs ys : Array Value} {f : Field} {k : IntKind} {a b : Int} (hn : f.name ≠ "_") (ht : P.underlying f.type = some (.int k)) (hx : xs[f.offset]? = some (.int k a)) (hy : ys[f.offset]? = some (.int k b)) : FE P (d + 1) xs ys f (decide (a = b)) := by
  refine ⟨hn, _, _, run_part_int ht hx, run_part_int ht hy, fun w => ?_⟩
  rw [run_equalIn_int w d _ _ _ _ _ ht]
  congr 1
theorem FE_bool {d : Nat} {xs ys : Array Value} {f : Field} {a b : Bool} (hn : f.name ≠ "_") (ht : P.underlying f.type = some .bool) (hx : xs[f.offset]? = some (.bool a)) (hy : ys[f.offset]? = some (.bool b)) : FE P (d + 1) xs ys f (decide (a = b)) := by
  have ha : ∀ w, (isAgg f.type).run P w = .ok false w := fun w => by unfold isAgg; rw [Sem.run_bind, run_underlying ht w]; rfl
  refine ⟨hn, _, _, run_part_one ha hx, run_part_one ha hy, fun w => ?_⟩
  simp only [Op.equalIn, Sem.run_bind, run_underlying ht, Result.andThen_ok, Sem.run_pure]
  congr 1
theorem FE_bytes {d n : Nat} {xs ys : Array Value} {f : Field} {e : TypeId} {a b : List UInt8} (hn : f.name ≠ "_") (ht : P.underlying f.type = some (.array n e)) (he : P.underlying e = some (.int .u8)) (hs : (P.info? e).map (·.size) = some 1) (hsz : ∀ w, (sizeOf f.type).run P w = .ok n w) (ha : a.length = n) (hb : b.length = n)
    (hx : xs.extract f.offset (f.offset + n) = bA a) (hy : ys.extract f.offset (f.offset + n) = bA b) : FE P (d + 2) xs ys f (decide (a = b)) := by
  have hag : ∀ w, (isAgg f.type).run P w = .ok true w := fun w => by unfold isAgg; rw [Sem.run_bind, run_underlying ht w]; rfl
  refine ⟨hn, _, _, run_part_agg hag hsz hx, run_part_agg hag hsz hy, fun w => ?_⟩
  rw [run_equalIn_bytes w d ht he hs a b ha hb _ _ (bA_get a) (bA_get b)]
  congr 1
  by_cases h : a = b <;> simp [h]
theorem FE_struct {d n : Nat} {xs ys vx vy : Array Value} {f : Field} {fs : Array Field} {r : Bool} (hn : f.name ≠ "_") (ht : P.underlying f.type = some (.struct fs)) (hp : P.stoodInHeld f.type = false) (hsz : ∀ w, (sizeOf f.type).run P w = .ok n w)
    (hx : xs.extract f.offset (f.offset + n) = vx) (hy : ys.extract f.offset (f.offset + n) = vy) (h : EqFs P d vx vy fs.toList r) : FE P (d + 1) xs ys f r := by
  have hag : ∀ w, (isAgg f.type).run P w = .ok true w := fun w => by unfold isAgg; rw [Sem.run_bind, run_underlying ht w]; rfl
  refine ⟨hn, _, _, run_part_agg hag hsz hx, run_part_agg hag hsz hy, fun w => ?_⟩
  have e : P.fieldsOf f.type = fs := by simp [Program.fieldsOf, ht]
  rw [run_equalIn_struct w d _ _ _ (by rw [e]; exact ht) hp, e]
  exact h.run w
variable {S : World → Prop} {env : Env} {dst : Option Tmp} {ty : TypeId} {pos : String} {after : Array Edge} {g : Option (Nat × Bool)}
theorem y_neS {x y : Operand} {t u : TypeId} {fs : Array Field} {xs ys : Array Value} {r : Bool} (ht : P.underlying t = some (.struct fs)) (hp : P.stoodInHeld t = false) (hm : P.eqGuardType P.depth t = false) (hf : EqFs P 9999 xs ys fs.toList r) (hx : ev env x = some (.agg xs)) (hy : ev env y = some (.agg ys)) :
    Y P S env ⟨dst, .binOp .neq t x y u, ty, pos, after, g⟩ (.bool (!r)) := fun N a w ha _ => by
  have h1 := run_neq_struct (P := P) w t xs ys
  have e : P.fieldsOf t = fs := by simp [Program.fieldsOf, ht]
  rw [run_equalIn_struct w 9999 t _ _ (by rw [e]; exact ht) hp, e, hf.run w, Result.andThen_ok] at h1
  simp only [execOp, ha.eval hx, ha.eval hy, Sem.run_bind, eqGuard_run .neq x y _ _ hm w, Result.andThen_ok, h1, Sem.run_pure]
end
end Go.Proofs.Ytmgimcdkeelnpaa.Zx


/-
  Same.
-/
namespace Go.Proofs.Ytmgimcdkeelnpaa
open Go.RowKit Zk Zx
set_option linter.unusedVariables false
set_option linter.unusedSimpArgs false

theorem en_id (e : EV) : (enf e).toArray.extract 2 (2 + 32) = bA e.id := by
  apply Array.ext'
  rw [Array.toList_extract]
  simp only [enf, bA]
  rw [List.extract_eq_take_drop]
  show List.take 32 (bL e.id) = bL e.id
  exact List.take_of_length_le (by simp [bL, e.h.1])
end Go.Proofs.Ytmgimcdkeelnpaa


/-
  Names.
-/
namespace Go.Proofs.Ytmgimcdkeelnpaa
open Go.RowKit Zk Zx
set_option linter.unusedVariables false
set_option linter.unusedSimpArgs false

def seenP (s : ByteArray) : Prop := ∀ k, k < s.size → 33 ≤ g8 s.data.toList k ∧ g8 s.data.toList k ≤ 126
instance (s : ByteArray) : Decidable (seenP s) := inferInstanceAs (Decidable (∀ k, k < s.size → 33 ≤ g8 s.data.toList k ∧ g8 s.data.toList k ≤ 126))
/-- May a text be a name? -/
def nmOk (s : ByteArray) : Bool := decide (1 ≤ s.size) && (decide (s.size ≤ 32) && (decide (seenP s) && (decide ((47 : UInt8) ∉ s.data.toList) && (decide (s ≠ ⟨#[46]⟩) && decide (s ≠ ⟨#[46, 46]⟩)))))
theorem idx_ge : ∀ (l : List UInt8) (c : UInt8), 0 ≤ Lib.indexByte l c ↔ c ∈ l
  | [], c => by unfold Lib.indexByte; simp
  | b :: l, c => by
    have ih := idx_ge l c
    have h0 := Lib.indexByte_ge l c
    unfold Lib.indexByte
    by_cases h : b = c
    · subst h; simp
    · have hb : (b == c) = false := by simp [h]
      rw [hb]
      simp only [Bool.false_eq_true, if_false, List.mem_cons, Ne.symm h, false_or]
      by_cases h1 : Lib.indexByte l c = -1
      · rw [h1]
        simp only [beq_self_eq_true, if_true]
        rw [← ih, h1]
      · have : (Lib.indexByte l c == -1) = false := by simp [h1]
        rw [this]
        simp only [Bool.false_eq_true, if_false]
        rw [← ih]
        omega
theorem strIdx (s : ByteArray) (w0 : World) : Calls Try.prog 61 #[.string s, .int .u8 47] w0 fun e w' => ∃ u, e = .returned u ∧ Like w0 w' ∧ u = .int .i64 (Lib.indexByte s.data.toList 47) :=
  (show Calls Try.prog 61 _ _ _ from Any.stringslite_IndexByte idxS s 47 w0).mono fun e w' ⟨h1, h2⟩ => by
    subst h2
    exact ⟨_, h1, Like.refl _, rfl⟩
theorem idx_self : Lib.indexByte (⟨#[47]⟩ : ByteArray).data.toList 47 = 0 := by decide +kernel
set_option maxRecDepth 100000 in
theorem mode_ (m : Int) (w0 : World)  :
    Calls Try.prog 26 #[.int .i64 m] w0 fun e w' => ∃ u, e = .returned u ∧ Like w0 w' ∧ u = .bool (decide (m = 1 ∨ m = 2 ∨ m = 3)) := by
  refine enter1 (env := [(0, .int .i64 m)]) [.int .i64 m] Try.func26 rfl Try.ntmps26 rfl rfl ?_
  have S0 := St.start w0 noM
  refine T_seq fun K1 hK1 => ?_
  refine T_region ?_
  refine L_y (y_assign rfl) rfl ?_
  refine L_nil ?_
  refine hK1 _ _ ?_
  refine T_seq fun K2 hK2 => ?_
  refine T_region ?_
  refine L_y (y_move rfl) rfl ?_
  refine L_y (y_eql rfl rfl) rfl ?_
  refine L_y (y_move rfl) rfl ?_
  refine L_split 5 rfl (fun h5 => ?_) (fun h5 => ?_)
  ·
    refine L_gno rfl rfl rfl ?_
    refine L_gno rfl rfl rfl ?_
    refine L_y (y_pk rfl rfl) rfl ?_
    refine L_y (y_move rfl) rfl ?_
    refine L_gno rfl rfl rfl ?_
    refine L_gno rfl rfl rfl ?_
    refine L_y (y_pk rfl rfl) rfl ?_
    refine L_y (y_assign rfl) rfl ?_
    refine L_nil ?_
    refine hK2 _ _ ?_
    refine T_ret ?_
    refine ur ?_
    refine ret1 rfl rfl ?_
    exact ⟨_, rfl, S0.like0, congrArg Value.bool (by first | (rw [Bool.eq_iff_iff]; simp only [decide_eq_true_eq, true_iff, false_iff, Bool.true_eq, Bool.false_eq, Bool.false_eq_true]; omega) | (simp; omega))⟩
  ·
    refine L_gyes rfl rfl ?_
    refine L_y (y_move rfl) rfl ?_
    refine L_gyes rfl rfl ?_
    refine L_y (y_eql rfl rfl) rfl ?_
    refine L_y (y_pk rfl rfl) rfl ?_
    refine L_y (y_move rfl) rfl ?_
    refine L_split 9 rfl (fun h9 => ?_) (fun h9 => ?_)
    ·
      refine L_gno rfl rfl rfl ?_
      refine L_gno rfl rfl rfl ?_
      refine L_y (y_pk rfl rfl) rfl ?_
      refine L_y (y_assign rfl) rfl ?_
      refine L_nil ?_
      refine hK2 _ _ ?_
      refine T_ret ?_
      refine ur ?_
      refine ret1 rfl rfl ?_
      exact ⟨_, rfl, S0.like0, congrArg Value.bool (by first | (rw [Bool.eq_iff_iff]; simp only [decide_eq_true_eq, true_iff, false_iff, Bool.true_eq, Bool.false_eq, Bool.false_eq_true]; omega) | (simp; omega))⟩
    ·
      refine L_gyes rfl rfl ?_
      refine L_y (y_move rfl) rfl ?_
      refine L_gyes rfl rfl ?_
      refine L_y (y_eql rfl rfl) rfl ?_
      refine L_y (y_pk rfl rfl) rfl ?_
      refine L_y (y_assign rfl) rfl ?_
      refine L_nil ?_
      refine hK2 _ _ ?_
      refine T_ret ?_
      refine ur ?_
      refine ret1 rfl rfl ?_
      exact ⟨_, rfl, S0.like0, congrArg Value.bool (by first | (rw [Bool.eq_iff_iff]; simp only [decide_eq_true_eq, true_iff, false_iff, Bool.true_eq, Bool.false_eq, Bool.false_eq_true]; omega) | (simp; omega))⟩


set_option maxRecDepth 100000 in
theorem plain_ (s : ByteArray) (w0 : World) (hs : s.size ≤ 1000) :
    Calls Try.prog 37 #[.string s] w0 fun e w' => ∃ u, e = .returned u ∧ Like w0 w' ∧ u = .bool (decide (seenP s)) := by
  refine enter1 (env := [(0, .string s)]) [.string s] Try.func37 rfl Try.ntmps37 rfl rfl ?_
  have S0 := St.start w0 noM
  refine T_seq fun K1 hK1 => ?_
  refine T_region ?_
  refine L_y (y_assign rfl) rfl ?_
  refine L_nil ?_
  refine hK1 _ _ ?_
  refine T_seq fun K2 hK2 => ?_
  refine T_seq fun K3 hK3 => ?_
  refine T_region ?_
  refine L_y (y_move rfl) rfl ?_
  refine L_y (y_lens Try.underlying9 rfl) rfl ?_
  refine L_y (y_move rfl) rfl ?_
  refine L_nil ?_
  refine hK3 _ _ ?_
  refine T_block ?_
  refine T_loop1 [(0, _), (5, _)] (fun (k : Nat) => [(6, .int .i64 (k : Int))]) (fun (k : Nat) => s.size - k) (fun (k : Nat) (w : World) => (k ≤ s.size ∧ (∀ j, j < k → 33 ≤ g8 s.data.toList j ∧ g8 s.data.toList j ≤ 126)) ∧ St w0 noM [] w) 0 (Sub.cons rfl (by first | rfl | exact congrArg (Value.int _) (by omega)) (Sub.nil _)) (Sub.cons rfl rfl (Sub.cons rfl rfl (Sub.nil _))) ?_ ?_
  ·
    exact ⟨⟨Nat.zero_le _, fun j hj => absurd hj (by omega)⟩, S0⟩
  ·
    intro k w1 hrel
    obtain ⟨⟨hk, hse⟩, S1⟩ := hrel
    refine T_seq fun K4 hK4 => ?_
    refine T_region ?_
    refine L_y (y_lss rfl rfl) rfl ?_
    refine L_nil ?_
    refine hK4 _ _ ?_
    refine T_seq fun K5 hK5 => ?_
    refine T_cond rfl (fun h7 => ?_) (fun h7 => ?_)
    ·
      refine T_skip ?_
      refine hK5 _ _ ?_
      refine T_seq fun K6 hK6 => ?_
      refine T_block ?_
      refine T_seq fun K7 hK7 => ?_
      refine T_region ?_
      refine L_y (y_move rfl) rfl ?_
      refine L_y (y_assign rfl) rfl ?_
      refine L_nil ?_
      refine hK7 _ _ ?_
      refine T_seq fun K8 hK8 => ?_
      refine T_region ?_
      refine L_y (y_move rfl) rfl ?_
      refine L_y (y_move rfl) rfl ?_
      refine L_y (y_idxS Try.underlying9 rfl rfl inferInstance (by omega)) rfl ?_
      refine L_y (y_lss rfl rfl) rfl ?_
      refine L_y (y_move rfl) rfl ?_
      refine L_split 13 rfl (fun h13 => ?_) (fun h13 => ?_)
      ·
        refine L_gno rfl rfl rfl ?_
        refine L_gno rfl rfl rfl ?_
        refine L_gno rfl rfl rfl ?_
        refine L_gno rfl rfl rfl ?_
        refine L_y (y_pk rfl rfl) rfl ?_
        refine L_nil ?_
        refine hK8 _ _ ?_
        refine T_true rfl ?_
        refine T_seq fun K9 hK9 => ?_
        refine T_region ?_
        refine L_y (y_assign rfl) rfl ?_
        refine L_nil ?_
        refine hK9 _ _ ?_
        refine T_ret ?_
        refine ur ?_
        refine ret1 rfl rfl ?_
        first | exact ⟨_, rfl, S1.like0, congrArg Value.bool (decide_eq_false (fun h => by have := h k (by omega); omega)).symm⟩ | exact ⟨_, rfl, S1.like0, congrArg Value.bool (decide_eq_true (fun j hj => hse j (by omega))).symm⟩
      ·
        refine L_gyes rfl rfl ?_
        refine L_y (y_move rfl) rfl ?_
        refine L_gyes rfl rfl ?_
        refine L_y (y_move rfl) rfl ?_
        refine L_gyes rfl rfl ?_
        refine L_y (y_idxS Try.underlying9 rfl rfl inferInstance (by omega)) rfl ?_
        refine L_gyes rfl rfl ?_
        refine L_y (y_gtr rfl rfl) rfl ?_
        refine L_y (y_pk rfl rfl) rfl ?_
        refine L_nil ?_
        refine hK8 _ _ ?_
        refine T_cond rfl (fun h18 => ?_) (fun h18 => ?_)
        ·
          refine T_seq fun K10 hK10 => ?_
          refine T_region ?_
          refine L_y (y_assign rfl) rfl ?_
          refine L_nil ?_
          refine hK10 _ _ ?_
          refine T_ret ?_
          refine ur ?_
          refine ret1 rfl rfl ?_
          first | exact ⟨_, rfl, S1.like0, congrArg Value.bool (decide_eq_false (fun h => by have := h k (by omega); omega)).symm⟩ | exact ⟨_, rfl, S1.like0, congrArg Value.bool (decide_eq_true (fun j hj => hse j (by omega))).symm⟩
        ·
          refine T_skip ?_
          refine hK6 _ _ ?_
          refine T_region ?_
          refine L_y (y_add rfl rfl (i64w (by omega))) rfl ?_
          refine L_y (y_move rfl) rfl ?_
          refine L_nil ?_
          refine ⟨k + 1, by omega, ⟨⟨by omega, fun j hj => by rcases Nat.lt_or_ge j k with q | q; exact hse j q; (have e9 : j = k := by omega); subst e9; omega⟩, S1⟩, ?_⟩
          exact (Sub.cons rfl (by first | rfl | exact congrArg (Value.int _) (by omega)) (Sub.cons rfl rfl (Sub.cons rfl rfl (Sub.nil _))))
    ·
      refine T_exit ?_
      refine hK2 _ _ ?_
      refine T_seq fun K11 hK11 => ?_
      refine T_region ?_
      refine L_y (y_assign rfl) rfl ?_
      refine L_nil ?_
      refine hK11 _ _ ?_
      refine T_ret ?_
      refine ur ?_
      refine ret1 rfl rfl ?_
      first | exact ⟨_, rfl, S1.like0, congrArg Value.bool (decide_eq_false (fun h => by have := h k (by omega); omega)).symm⟩ | exact ⟨_, rfl, S1.like0, congrArg Value.bool (decide_eq_true (fun j hj => hse j (by omega))).symm⟩


set_option maxRecDepth 100000 in
theorem sidx (s : ByteArray) (w0 : World)  :
    Calls Try.prog 54 #[.string s, .string ⟨#[47]⟩] w0 fun e w' => ∃ u, e = .returned u ∧ Like w0 w' ∧ u = .int .i64 (Lib.indexByte s.data.toList 47) := by
  refine enter1 (env := [(0, .string s), (1, .string ⟨#[47]⟩)]) [.string s, .string ⟨#[47]⟩] Try.func54 rfl Try.ntmps54 rfl rfl ?_
  have h1z : (⟨#[47]⟩ : ByteArray).size = 1 := rfl; have S0 := St.start w0 noM
  refine T_seq fun K1 hK1 => ?_
  refine T_region ?_
  refine L_y (y_assign rfl) rfl ?_
  refine L_nil ?_
  refine hK1 _ _ ?_
  refine T_seq fun K2 hK2 => ?_
  refine T_region ?_
  refine L_y (y_move rfl) rfl ?_
  refine L_y (y_lens Try.underlying9 rfl) rfl ?_
  refine L_y (y_assign rfl) rfl ?_
  refine L_nil ?_
  refine hK2 _ _ ?_
  refine T_seq fun K3 hK3 => ?_
  refine T_block ?_
  refine T_seq fun K4 hK4 => ?_
  refine T_region ?_
  refine L_y (y_move rfl) rfl ?_
  refine L_y (y_eql rfl rfl) rfl ?_
  refine L_y (y_move rfl) rfl ?_
  refine L_split 19 rfl (fun h19 => ?_) (fun h19 => ?_)
  ·
    omega
  ·
    refine L_gyes rfl rfl ?_
    refine L_y (y_move rfl) rfl ?_
    refine L_gyes rfl rfl ?_
    refine L_y (y_move rfl) rfl ?_
    refine L_gyes rfl rfl ?_
    refine L_y (y_seql rfl rfl) rfl ?_
    refine L_y (y_pk rfl rfl) rfl ?_
    refine L_y (y_assign rfl) rfl ?_
    refine L_nil ?_
    refine hK4 _ _ ?_
    refine T_cond rfl (fun h16 => ?_) (fun h16 => ?_)
    ·
      refine T_seq fun K5 hK5 => ?_
      refine T_region ?_
      refine L_y (y_assign rfl) rfl ?_
      refine L_nil ?_
      refine hK5 _ _ ?_
      refine T_ret ?_
      refine ur ?_
      refine ret1 rfl rfl ?_
      subst h16
      exact ⟨_, rfl, S0.like0, congrArg (Value.int _) idx_self.symm⟩
    ·
      refine T_seq fun K6 hK6 => ?_
      refine T_region ?_
      refine L_y (y_move rfl) rfl ?_
      refine L_y (y_eql rfl rfl) rfl ?_
      refine L_y (y_assign rfl) rfl ?_
      refine L_nil ?_
      refine hK6 _ _ ?_
      refine T_cond rfl (fun h24 => ?_) (fun h24 => ?_)
      ·
        refine T_seq fun K7 hK7 => ?_
        refine T_region ?_
        refine L_y (y_move rfl) rfl ?_
        refine L_y (y_move rfl) rfl ?_
        refine L_y (y_idxS Try.underlying9 rfl rfl inferInstance (by omega)) rfl ?_
        refine L_o (o_call Try.func61 rfl rfl (strIdx s w0) rfl rfl ?_)
        rintro e2 w2 ⟨v2, rfl, l2, rfl⟩
        refine ⟨_, rfl, ?_⟩
        have S2 := S0.like l2
        refine L_y (y_assign rfl) rfl ?_
        refine L_nil ?_
        refine hK7 _ _ ?_
        refine T_ret ?_
        refine ur ?_
        refine ret1 rfl rfl ?_
        exact ⟨_, rfl, S2.like0, rfl⟩
      ·
        omega


set_option maxRecDepth 100000 in
theorem sidx2 (s : ByteArray) (w0 : World)  :
    Calls Try.prog 47 #[.string s, .string ⟨#[47]⟩] w0 fun e w' => ∃ u, e = .returned u ∧ Like w0 w' ∧ u = .int .i64 (Lib.indexByte s.data.toList 47) := by
  refine enter1 (env := [(0, .string s), (1, .string ⟨#[47]⟩)]) [.string s, .string ⟨#[47]⟩] Try.func47 rfl Try.ntmps47 rfl rfl ?_
  have S0 := St.start w0 noM
  refine T_seq fun K1 hK1 => ?_
  refine T_region ?_
  refine L_y (y_assign rfl) rfl ?_
  refine L_nil ?_
  refine hK1 _ _ ?_
  refine T_seq fun K2 hK2 => ?_
  refine T_region ?_
  refine L_y (y_move rfl) rfl ?_
  refine L_y (y_move rfl) rfl ?_
  refine L_o (o_call Try.func54 rfl rfl (sidx s w0) rfl rfl ?_)
  rintro e1 w1 ⟨v1, rfl, l1, rfl⟩
  refine ⟨_, rfl, ?_⟩
  have S1 := S0.like l1
  refine L_y (y_assign rfl) rfl ?_
  refine L_nil ?_
  refine hK2 _ _ ?_
  refine T_ret ?_
  refine ur ?_
  refine ret1 rfl rfl ?_
  exact ⟨_, rfl, S1.like0, rfl⟩


set_option maxRecDepth 100000 in
theorem contai (s : ByteArray) (w0 : World)  :
    Calls Try.prog 38 #[.string s, .string ⟨#[47]⟩] w0 fun e w' => ∃ u, e = .returned u ∧ Like w0 w' ∧ u = .bool (decide ((47 : UInt8) ∈ s.data.toList)) := by
  refine enter1 (env := [(0, .string s), (1, .string ⟨#[47]⟩)]) [.string s, .string ⟨#[47]⟩] Try.func38 rfl Try.ntmps38 rfl rfl ?_
  have S0 := St.start w0 noM
  refine T_seq fun K1 hK1 => ?_
  refine T_region ?_
  refine L_y (y_assign rfl) rfl ?_
  refine L_nil ?_
  refine hK1 _ _ ?_
  refine T_seq fun K2 hK2 => ?_
  refine T_region ?_
  refine L_y (y_move rfl) rfl ?_
  refine L_y (y_move rfl) rfl ?_
  refine L_o (o_call Try.func47 rfl rfl (sidx2 s w0) rfl rfl ?_)
  rintro e1 w1 ⟨v1, rfl, l1, rfl⟩
  refine ⟨_, rfl, ?_⟩
  have S1 := S0.like l1
  refine L_y (y_geq rfl rfl) rfl ?_
  refine L_y (y_assign rfl) rfl ?_
  refine L_nil ?_
  refine hK2 _ _ ?_
  refine T_ret ?_
  refine ur ?_
  refine ret1 rfl rfl ?_
  exact ⟨_, rfl, S1.like0, congrArg Value.bool (decide_eq_decide.2 (idx_ge _ _))⟩


set_option maxRecDepth 100000 in
theorem pname (s : ByteArray) (w0 : World)  :
    Calls Try.prog 27 #[.string s] w0 fun e w' => ∃ u, e = .returned u ∧ Like w0 w' ∧ u = .bool (nmOk s) := by
  refine enter1 (env := [(0, .string s)]) [.string s] Try.func27 rfl Try.ntmps27 rfl rfl ?_
  have S0 := St.start w0 noM
  refine T_seq fun K1 hK1 => ?_
  refine T_region ?_
  refine L_y (y_assign rfl) rfl ?_
  refine L_nil ?_
  refine hK1 _ _ ?_
  refine T_seq fun K2 hK2 => ?_
  refine T_region ?_
  refine L_y (y_move rfl) rfl ?_
  refine L_y (y_lens Try.underlying9 rfl) rfl ?_
  refine L_y (y_gtr rfl rfl) rfl ?_
  refine L_y (y_move rfl) rfl ?_
  refine L_split 6 rfl (fun h6 => ?_) (fun h6 => ?_)
  ·
    have q6 : 1 ≤ s.size := by omega
    refine L_gyes rfl rfl ?_
    refine L_y (y_move rfl) rfl ?_
    refine L_gyes rfl rfl ?_
    refine L_y (y_lens Try.underlying9 rfl) rfl ?_
    refine L_gyes rfl rfl ?_
    refine L_y (y_leq rfl rfl) rfl ?_
    refine L_y (y_pk rfl rfl) rfl ?_
    refine L_y (y_move rfl) rfl ?_
    refine L_split 11 rfl (fun h11 => ?_) (fun h11 => ?_)
    ·
      have q11 : s.size ≤ 32 := by omega
      refine L_gyes rfl rfl ?_
      refine L_y (y_move rfl) rfl ?_
      refine L_gyes rfl rfl ?_
      refine L_o (o_call Try.func37 rfl rfl (plain_ s w0 (by omega)) rfl rfl ?_)
      rintro e3 w3 ⟨v3, rfl, l3, rfl⟩
      refine ⟨_, rfl, ?_⟩
      have S3 := S0.like l3
      refine L_y (y_pk rfl rfl) rfl ?_
      refine L_y (y_move rfl) rfl ?_
      refine L_split 15 rfl (fun h15 => ?_) (fun h15 => ?_)
      ·
        have q15 : seenP s := by first | exact of_decide_eq_true h15 | exact of_decide_eq_false h15 | simpa using h15
        refine L_gyes rfl rfl ?_
        refine L_y (y_move rfl) rfl ?_
        refine L_gyes rfl rfl ?_
        refine L_o (o_call Try.func38 rfl rfl (contai s w3) rfl rfl ?_)
        rintro e5 w5 ⟨v5, rfl, l5, rfl⟩
        refine ⟨_, rfl, ?_⟩
        have S5 := S3.like l5
        refine L_gyes rfl rfl ?_
        refine L_y ((by first | exact y_notD rfl | exact y_not rfl)) rfl ?_
        refine L_y (y_pk rfl rfl) rfl ?_
        refine L_y (y_move rfl) rfl ?_
        refine L_split 20 rfl (fun h20 => ?_) (fun h20 => ?_)
        ·
          have q20 : (47 : UInt8) ∉ s.data.toList := by simpa using h20
          refine L_gyes rfl rfl ?_
          refine L_y (y_move rfl) rfl ?_
          refine L_gyes rfl rfl ?_
          refine L_y (y_sneq rfl rfl) rfl ?_
          refine L_y (y_pk rfl rfl) rfl ?_
          refine L_y (y_move rfl) rfl ?_
          refine L_split 24 rfl (fun h24 => ?_) (fun h24 => ?_)
          ·
            have q24 : s ≠ ⟨#[46]⟩ := by simpa using h24
            refine L_gyes rfl rfl ?_
            refine L_y (y_move rfl) rfl ?_
            refine L_gyes rfl rfl ?_
            refine L_y (y_sneq rfl rfl) rfl ?_
            refine L_y (y_pk rfl rfl) rfl ?_
            refine L_y (y_assign rfl) rfl ?_
            refine L_nil ?_
            refine hK2 _ _ ?_
            refine T_ret ?_
            refine ur ?_
            refine ret1 rfl rfl ?_
            exact ⟨_, rfl, S5.like0, congrArg Value.bool (by unfold nmOk; simp [q24, q20, q15, q11, q6])⟩
          ·
            have q24 : ¬ s ≠ ⟨#[46]⟩ := by simpa using h24
            refine L_gno rfl rfl rfl ?_
            refine L_gno rfl rfl rfl ?_
            refine L_y (y_pk rfl rfl) rfl ?_
            refine L_y (y_assign rfl) rfl ?_
            refine L_nil ?_
            refine hK2 _ _ ?_
            refine T_ret ?_
            refine ur ?_
            refine ret1 rfl rfl ?_
            exact ⟨_, rfl, S5.like0, congrArg Value.bool (by unfold nmOk; simp [q24, q20, q15, q11, q6])⟩
        ·
          have q20 : (47 : UInt8) ∈ s.data.toList := Decidable.not_not.1 h20
          refine L_gno rfl rfl rfl ?_
          refine L_gno rfl rfl rfl ?_
          refine L_y (y_pk rfl rfl) rfl ?_
          refine L_y (y_move rfl) rfl ?_
          refine L_gno rfl rfl rfl ?_
          refine L_gno rfl rfl rfl ?_
          refine L_y (y_pk rfl rfl) rfl ?_
          refine L_y (y_assign rfl) rfl ?_
          refine L_nil ?_
          refine hK2 _ _ ?_
          refine T_ret ?_
          refine ur ?_
          refine ret1 rfl rfl ?_
          exact ⟨_, rfl, S5.like0, congrArg Value.bool (by unfold nmOk; simp [q20, q15, q11, q6])⟩
      ·
        have q15 : ¬ seenP s := by first | exact of_decide_eq_true h15 | exact of_decide_eq_false h15 | simpa using h15
        refine L_gno rfl rfl rfl ?_
        refine L_gno rfl rfl rfl ?_
        refine L_gno rfl rfl rfl ?_
        refine L_y (y_pk rfl rfl) rfl ?_
        refine L_y (y_move rfl) rfl ?_
        refine L_gno rfl rfl rfl ?_
        refine L_gno rfl rfl rfl ?_
        refine L_y (y_pk rfl rfl) rfl ?_
        refine L_y (y_move rfl) rfl ?_
        refine L_gno rfl rfl rfl ?_
        refine L_gno rfl rfl rfl ?_
        refine L_y (y_pk rfl rfl) rfl ?_
        refine L_y (y_assign rfl) rfl ?_
        refine L_nil ?_
        refine hK2 _ _ ?_
        refine T_ret ?_
        refine ur ?_
        refine ret1 rfl rfl ?_
        exact ⟨_, rfl, S3.like0, congrArg Value.bool (by unfold nmOk; simp [q15, q11, q6])⟩
    ·
      have q11 : ¬ s.size ≤ 32 := by omega
      refine L_gno rfl rfl rfl ?_
      refine L_gno rfl rfl rfl ?_
      refine L_y (y_pk rfl rfl) rfl ?_
      refine L_y (y_move rfl) rfl ?_
      refine L_gno rfl rfl rfl ?_
      refine L_gno rfl rfl rfl ?_
      refine L_gno rfl rfl rfl ?_
      refine L_y (y_pk rfl rfl) rfl ?_
      refine L_y (y_move rfl) rfl ?_
      refine L_gno rfl rfl rfl ?_
      refine L_gno rfl rfl rfl ?_
      refine L_y (y_pk rfl rfl) rfl ?_
      refine L_y (y_move rfl) rfl ?_
      refine L_gno rfl rfl rfl ?_
      refine L_gno rfl rfl rfl ?_
      refine L_y (y_pk rfl rfl) rfl ?_
      refine L_y (y_assign rfl) rfl ?_
      refine L_nil ?_
      refine hK2 _ _ ?_
      refine T_ret ?_
      refine ur ?_
      refine ret1 rfl rfl ?_
      exact ⟨_, rfl, S0.like0, congrArg Value.bool (by unfold nmOk; simp [q11, q6])⟩
  ·
    have q6 : ¬ 1 ≤ s.size := by omega
    refine L_gno rfl rfl rfl ?_
    refine L_gno rfl rfl rfl ?_
    refine L_gno rfl rfl rfl ?_
    refine L_y (y_pk rfl rfl) rfl ?_
    refine L_y (y_move rfl) rfl ?_
    refine L_gno rfl rfl rfl ?_
    refine L_gno rfl rfl rfl ?_
    refine L_y (y_pk rfl rfl) rfl ?_
    refine L_y (y_move rfl) rfl ?_
    refine L_gno rfl rfl rfl ?_
    refine L_gno rfl rfl rfl ?_
    refine L_gno rfl rfl rfl ?_
    refine L_y (y_pk rfl rfl) rfl ?_
    refine L_y (y_move rfl) rfl ?_
    refine L_gno rfl rfl rfl ?_
    refine L_gno rfl rfl rfl ?_
    refine L_y (y_pk rfl rfl) rfl ?_
    refine L_y (y_move rfl) rfl ?_
    refine L_gno rfl rfl rfl ?_
    refine L_gno rfl rfl rfl ?_
    refine L_y (y_pk rfl rfl) rfl ?_
    refine L_y (y_assign rfl) rfl ?_
    refine L_nil ?_
    refine hK2 _ _ ?_
    refine T_ret ?_
    refine ur ?_
    refine ret1 rfl rfl ?_
    exact ⟨_, rfl, S0.like0, congrArg Value.bool (by unfold nmOk; simp [q6])⟩


end Go.Proofs.Ytmgimcdkeelnpaa


/-
  Check.
-/
namespace Go.Proofs.Ytmgimcdkeelnpaa
open Go.RowKit Zk Zx
set_option linter.unusedVariables false
set_option linter.unusedSimpArgs false

def mdOk (m : Int) : Prop := m = 1 ∨ m = 2 ∨ m = 3
instance (m : Int) : Decidable (mdOk m) := inferInstanceAs (Decidable (m = 1 ∨ m = 2 ∨ m = 3))
/-- The first thing that is wrong with an entry. -/
def chk1 : List EV → Int
  | [] => 0
  | e :: l => if ¬ mdOk e.md then 16 else if nmOk e.nm = false then 15 else chk1 l
/-- Do keys rise? -/
def risK : List EV → Bool
  | x :: y :: l => ltK x y && risK (y :: l)
  | _ => true
/-- Is no name there twice? -/
def once (l : List EV) : Prop := (l.map EV.nm).Nodup
instance (l : List EV) : Decidable (once l) := inferInstanceAs (Decidable (l.map EV.nm).Nodup)
def chkE (l : List EV) : Int := if 64 < l.length then 3 else if chk1 l ≠ 0 then chk1 l else if ¬ once l then 17 else if risK l = false then 18 else 0
theorem chk1_at {l : List EV} : ∀ (k : Nat), (∀ j e, j < k → l[j]? = some e → mdOk e.md ∧ nmOk e.nm = true) → k ≤ l.length → chk1 l = chk1 (l.drop k) := by
  induction l with
  | nil => intro k _ hk; simp at hk; rw [hk]; rfl
  | cons e l ih =>
    intro k h hk
    match k with
    | 0 => rfl
    | k + 1 =>
      obtain ⟨h1, h2⟩ := h 0 e (by omega) rfl
      conv => lhs; unfold chk1
      rw [if_neg (fun x => x h1), if_neg (by rw [h2]; exact fun x => by cases x), List.drop_succ_cons]
      exact ih k (fun j e' hj he => h (j + 1) e' (by omega) he) (by simpa using hk)
theorem chk1_md {l : List EV} {k : Nat} {e : EV} (he : l[k]? = some e) (h : ¬ mdOk e.md) : chk1 (l.drop k) = 16 := by
  rw [drop_hd2 he]
  unfold chk1
  rw [if_pos h]
theorem chk1_nm {l : List EV} {k : Nat} {e : EV} (he : l[k]? = some e) (h : mdOk e.md) (h2 : nmOk e.nm = false) : chk1 (l.drop k) = 15 := by
  rw [drop_hd2 he]
  unfold chk1
  rw [if_neg (fun x => x h), if_pos h2]
theorem risK_at : ∀ (l : List EV) (k : Nat), (∀ j x y, j + 1 < k → l[j]? = some x → l[j + 1]? = some y → ltK x y = true) → k ≤ l.length → risK l = risK (l.drop (k - 1))
  | l, 0, _, _ => rfl
  | l, 1, _, _ => rfl
  | [], k + 2, _, h => by simp at h
  | [x], k + 2, _, h => by simp at h
  | x :: y :: l, k + 2, h, hk => by
    have h0 := h 0 x y (by omega) rfl rfl
    have ih := risK_at (y :: l) (k + 1) (fun j a b hj ha hb => h (j + 1) a b (by omega) ha hb) (by simpa using hk)
    show (ltK x y && risK (y :: l)) = _
    rw [h0, Bool.true_and, ih]
    rfl
theorem risK_no {l : List EV} {k : Nat} {x y : EV} (hx : l[k]? = some x) (hy : l[k + 1]? = some y) (h : ltK x y = false) : risK (l.drop k) = false := by
  rw [drop_hd2 hx, drop_hd2 hy]
  show (ltK x y && _) = false
  rw [h]
  rfl
theorem risK_end {l : List EV} {k : Nat} (h : l.length ≤ k + 1) : risK (l.drop k) = true := by
  have : (l.drop k).length ≤ 1 := by rw [List.length_drop]; omega
  match hd : l.drop k with
  | [] => rfl
  | [x] => rfl
  | x :: y :: m => rw [hd] at this; simp at this
theorem once_snoc {l : List EV} {k : Nat} {e : EV} (he : l[k]? = some e) (h : once (l.take k)) (h2 : e.nm ∉ (l.take k).map EV.nm) : once (l.take (k + 1)) := by
  unfold once at *
  rw [take_sn2 he, List.map_append, List.nodup_append]
  refine ⟨h, by simp, fun a ha b hb => ?_⟩
  rw [List.map_singleton, List.mem_singleton] at hb
  subst hb
  exact fun e2 => h2 (by rw [← e2]; exact ha)
theorem not_onceT {l : List EV} {k : Nat} {e : EV} (he : l[k]? = some e) (h2 : e.nm ∈ (l.take k).map EV.nm) : ¬ once (l.take (k + 1)) := fun h3 => by
  unfold once at h3
  rw [take_sn2 he, List.map_append, List.nodup_append] at h3
  exact h3.2.2 _ h2 _ (by simp) rfl
theorem once_sub {l : List EV} (k : Nat) (h : once l) : once (l.take k) := by
  unfold once at *
  exact h.sublist ((List.take_sublist _ _).map _)
theorem once_down {l : List EV} {k : Nat} (h : once (l.take (k + 1))) : once (l.take k) := by
  have := once_sub k h
  rwa [List.take_take, Nat.min_eq_left (by omega)] at this
end Go.Proofs.Ytmgimcdkeelnpaa


/-
  Maps from strings to bools: sets of strings. General; nothing here names a program.
-/
namespace Go.Proofs.Ytmgimcdkeelnpaa.Zx
open Go.RowKit Zk Go.Maps
set_option linter.unusedVariables false
set_option linter.unusedSimpArgs false
section
variable {P : Program} {N : Nat} {Q : Post} {env : Env} {w w0 : World} {M : Nat → Prop} {rs : List Res} {K : Env → World → Prop} {d : Tmp} {dst : Option Tmp} {ty : TypeId} {pos : String} {after : Array Edge} {g : Option (Nat × Bool)}
def hasS (L : List ByteArray) (s : ByteArray) : Bool := L.any fun t => decide (t = s)
theorem hasS_iff {L : List ByteArray} {s : ByteArray} : hasS L s = true ↔ s ∈ L := by
  unfold hasS
  rw [List.any_eq_true]
  constructor
  · rintro ⟨t, h1, h2⟩
    rw [← of_decide_eq_true h2]
    exact h1
  · exact fun h => ⟨s, h, decide_eq_true rfl⟩
/-- The map holds just these. -/
def SM (D : DU) (L : List ByteArray) : Prop := IsMap D ∧ ∀ s : ByteArray, D.atKey (.string s.data.toList) (.lit (.bool false)) = .lit (.bool (hasS L s))
theorem SM.nil : SM (.map []) [] := ⟨⟨[], rfl⟩, fun s => rfl⟩
theorem bytes_inj {a b : ByteArray} (h : a.data.toList = b.data.toList) : a = b := by
  apply ByteArray.ext
  exact Array.toList_inj.1 h
theorem SM.put {D : DU} {L : List ByteArray} (h : SM D L) (s : ByteArray) : SM (D.put (.string s.data.toList) (.lit (.bool true))) (L ++ [s]) := by
  refine ⟨?_, fun t => ?_⟩
  · obtain ⟨es, rfl⟩ := h.1
    exact ⟨_, rfl⟩
  · by_cases e : t = s
    · subst e
      rw [atKey_put_same h.1 (show WideAt.IsKeyLit (.string _) from trivial), hasS_iff.2 (by simp)]
    · have e2 : hasS (L ++ [s]) t = hasS L t := by
        rw [Bool.eq_iff_iff, hasS_iff, hasS_iff]
        simp [e]
      rw [atKey_put_other (fun q => e (bytes_inj (by injection q))), h.2 t, e2]
theorem y_lookZ {t k e : TypeId} {b n : Nat} {D : DU} {L : List ByteArray} {m x : Operand} {s : ByteArray} (hown : w.ownsMap P k (plainElem P e) b n D) (hk : P.underlying k = some .string) (ht : P.underlying t = some (.map k e)) (he : P.underlying e = some .bool)
    (hz : ∀ w, (zeroValue e).run P w = .ok (.bool false) w) (hm : ev env m = some (.map (some b))) (hx : ev env x = some (.string s)) (hs : s.size ≤ maxLen) (hc : SM D L) :
    Y P (Like w) env ⟨dst, .lookup t m x false, ty, pos, after, g⟩ (.bool (hasS L s)) := fun N a w' ha hw => by
  have h2 : w'.ownsMap P k (plainElem P e) b n D := (mapR P k e b n D).stable w w' (fun i hi => by have hi' : i = b := hi; subst hi'; exact hw.block i hown.lt) hown
  obtain ⟨v, ps, hrun, hv⟩ := h2.lookup (Maps.string_keyed hk) ht (hz w') (plainElem_bool (H := Unit) he false) (Go.WideMaps.keyOf_string_mk hk hs)
  rw [hc.2 s] at hv
  have e1 : v = .bool (hasS L s) := by
    cases v with
    | bool c =>
      rw [plainElem_bool he] at hv
      have := Option.some.inj hv
      have h3 := congrArg Prod.fst this
      simp only [DataW.lit.injEq, Lit.bool.injEq] at h3
      rw [h3]
    | _ => simp [plainElem, he] at hv
  subst e1
  simp only [execOp, ha.eval hm, ha.eval hx, Sem.run_bind, hrun, Sem.run_pure, Result.andThen_ok]
theorem o_mapUpZ {t k e : TypeId} {b n : Nat} {D : DU} {m x v : Operand} {s : ByteArray} {c : Bool} (S : St w0 M rs w) (j : Nat) (hj : rs[j]? = some (mapR P k e b n D)) (hk : P.underlying k = some .string) (ht : P.underlying t = some (.map k e)) (he : P.underlying e = some .bool)
    (hm : ev env m = some (.map (some b))) (hx : ev env x = some (.string s)) (hv : ev env v = some (.bool c)) (hs : s.size ≤ maxLen) (hn : n < 9223372036854775807)
    (h : ∀ w', St w0 M (rs.set j (mapR P k e b (n + 1) (D.put (.string s.data.toList) (.lit (.bool c))))) w' → K env w') :
    O P N Q ⟨none, .mapUpdate t m x v, ty, pos, after, g⟩ env w K := fun a ha => by
  have hown : w.ownsMap P k (plainElem P e) b n D := S.get j hj
  obtain ⟨w', hrun, h1, h2⟩ := hown.update (Maps.string_keyed hk) ht (by unfold maxLen; exact hn) (Go.WideMaps.keyOf_string_mk hk hs) (plainElem_bool (H := Unit) he c)
  unfold Oper.wp
  simp only [execOp, ha.eval hm, ha.eval hx, ha.eval hv, Sem.run_bind, hrun, Sem.run_pure, Result.andThen_ok]
  refine ⟨env, ha, h w' (S.upd j hj h2.os h2.tape h2.output h2.size (fun i hi hn => h2.block i hi fun e => hn ?_) h1 fun i hi => .inl hi)⟩
  injection e with e
end
end Go.Proofs.Ytmgimcdkeelnpaa.Zx


/-
  tree.Check.
-/
namespace Go.Proofs.Ytmgimcdkeelnpaa
open Go.RowKit Zk Zx
set_option linter.unusedVariables false
set_option linter.unusedSimpArgs false

theorem ok_next {l : List EV} {k : Nat} {x : EV} (h : ∀ j e, j < k → l[j]? = some e → mdOk e.md ∧ nmOk e.nm = true) (hx : l[k]? = some x) (h1 : mdOk x.md) (h2 : nmOk x.nm = true) : ∀ j e, j < k + 1 → l[j]? = some e → mdOk e.md ∧ nmOk e.nm = true := fun j e hj he => by
  rcases Nat.lt_or_ge j k with q | q
  · exact h j e q he
  · obtain rfl : j = k := by omega
    rw [hx] at he
    cases he
    exact ⟨h1, h2⟩
theorem ris_next {l : List EV} {k : Nat} {x y : EV} (h : ∀ j x y, j + 1 < k → l[j]? = some x → l[j + 1]? = some y → ltK x y = true) (hx : l[k - 1]? = some x) (hy : l[k]? = some y) (h0 : 0 < k) (h1 : ltK x y = true) : ∀ j x y, j + 1 < k + 1 → l[j]? = some x → l[j + 1]? = some y → ltK x y = true := fun j a b hj ha hb => by
  rcases Nat.lt_or_ge (j + 1) k with q | q
  · exact h j a b q ha hb
  · obtain rfl : j = k - 1 := by omega
    rw [show k - 1 + 1 = k by omega] at hb
    rw [hx] at ha
    rw [hy] at hb
    cases ha
    cases hb
    exact h1
theorem enf_sz (x : EV) : (enf x).toArray.size = 34 := by rw [List.size_toArray, enf_len]
theorem szE (x : EV) : (Try.prog.info? 39).map (·.size) = some (enf x).toArray.size := sz39.trans (congrArg some (by rw [List.size_toArray, enf_len]))
theorem risK_fin {l : List EV} {k : Nat} (h : ∀ j x y, j + 1 < k → l[j]? = some x → l[j + 1]? = some y → ltK x y = true) (h1 : k ≤ l.length ∨ k = 1) (h2 : l.length ≤ k) : risK l = true := by
  rcases h1 with h1 | h1
  · exact (risK_at l k h h1).trans (risK_end (by omega))
  · subst h1
    match l, h2 with
    | [], _ => rfl
    | [x], _ => rfl
    | x :: y :: m, h2 => simp at h2
theorem chkE_long {l : List EV} (h : 64 < l.length) : chkE l = 3 := by unfold chkE; rw [if_pos h]
theorem chkE_one {l : List EV} {c : Int} (h : ¬ 64 < l.length) (h1 : chk1 l = c) (hc : c ≠ 0) : chkE l = c := by unfold chkE; rw [if_neg h, if_pos (by rw [h1]; exact hc), h1]
theorem chkE_twice {l : List EV} (h : ¬ 64 < l.length) (h1 : chk1 l = 0) (h2 : ¬ once l) : chkE l = 17 := by unfold chkE; rw [if_neg h, if_neg (by omega), if_pos h2]
theorem chkE_ord {l : List EV} (h : ¬ 64 < l.length) (h1 : chk1 l = 0) (h2 : once l) (h3 : risK l = false) : chkE l = 18 := by unfold chkE; rw [if_neg h, if_neg (by omega), if_neg (fun x => x h2), if_pos h3]
theorem chkE_ok {l : List EV} (h : ¬ 64 < l.length) (h1 : chk1 l = 0) (h2 : once l) (h3 : risK l = true) : chkE l = 0 := by unfold chkE; rw [if_neg h, if_neg (by omega), if_neg (fun x => x h2), if_neg (by rw [h3]; exact fun x => by cases x)]


set_option maxRecDepth 100000 in
theorem pcheck (A : Option Addr) (n c : Nat) (l : List EV) (w0 : World) (hl : Rs w0 34 A n c (l.flatMap enf)) (hn5 : n ≤ 10000) :
    Calls Try.prog 10 #[.slice A n c] w0 fun e w' => ∃ u, e = .returned u ∧ Like w0 w' ∧ u = .int .i64 (chkE l) := by
  refine enter1 (env := [(0, .slice A n c)]) [.slice A n c] Try.func10 rfl Try.ntmps10 rfl rfl ?_
  have hn := ens_n hl; have hcap := hl.cap; have hmax := hl.max; have S0 := St.start w0 noM
  refine T_seq fun K1 hK1 => ?_
  refine T_region ?_
  refine L_y (y_assign rfl) rfl ?_
  refine L_nil ?_
  refine hK1 _ _ ?_
  refine T_seq fun K2 hK2 => ?_
  refine T_seq fun K3 hK3 => ?_
  refine T_region ?_
  refine L_y (y_move rfl) rfl ?_
  refine L_y (y_len Try.underlying22 rfl) rfl ?_
  refine L_y (y_gtr rfl rfl) rfl ?_
  refine L_nil ?_
  refine hK3 _ _ ?_
  refine T_cond rfl (fun h10 => ?_) (fun h10 => ?_)
  ·
    refine T_seq fun K4 hK4 => ?_
    refine T_region ?_
    refine L_y (y_assign rfl) rfl ?_
    refine L_nil ?_
    refine hK4 _ _ ?_
    refine T_ret ?_
    refine ur ?_
    refine ret1 rfl rfl ?_
    exact ⟨_, rfl, S0.like0, congrArg (Value.int _) (chkE_long (by omega)).symm⟩
  ·
    refine T_skip ?_
    refine hK2 _ _ ?_
    refine T_seq fun K5 hK5 => ?_
    refine T_region ?_
    refine L_o (o_makeMap (t := 57) (k := 9) (e := 4) S0 rfl fun b1 w1 hb1 S1 => ?_)
    refine L_y (y_assign rfl) rfl ?_
    refine L_nil ?_
    refine hK5 _ _ ?_
    refine T_seq fun K6 hK6 => ?_
    refine T_region ?_
    refine L_y (y_assign rfl) rfl ?_
    refine L_nil ?_
    refine hK6 _ _ ?_
    refine T_seq fun K7 hK7 => ?_
    refine T_seq fun K8 hK8 => ?_
    refine T_region ?_
    refine L_y (y_move rfl) rfl ?_
    refine L_y (y_len Try.underlying22 rfl) rfl ?_
    refine L_y (y_move rfl) rfl ?_
    refine L_nil ?_
    refine hK8 _ _ ?_
    refine T_block ?_
    refine T_loop3 [(0, _), (3, _), (12, _), (13, _)] (fun (k : Nat) (tw : Bool) (D : DU) => [(14, .int .i64 (k : Int)), (4, .bool tw)]) (fun (k : Nat) (tw : Bool) (D : DU) => n - k) (fun (k : Nat) (tw : Bool) (D : DU) (w : World) => (k ≤ n ∧ (∀ j e, j < k → l[j]? = some e → mdOk e.md ∧ nmOk e.nm = true) ∧ tw = decide (¬ once (l.take k)) ∧ SM D ((l.take k).map EV.nm)) ∧ St w0 noM [mapR Try.prog 9 4 b1 k D] w) 0 false (.map []) (Sub.cons rfl (by first | rfl | exact congrArg (Value.int _) (by omega)) (Sub.cons rfl (by first | rfl | exact congrArg (Value.int _) (by omega)) (Sub.nil _))) (Sub.cons rfl rfl (Sub.cons rfl rfl (Sub.cons rfl rfl (Sub.cons rfl rfl (Sub.nil _))))) ?_ ?_
    ·
      exact ⟨⟨Nat.zero_le _, fun j e hj => absurd hj (by omega), by simp [once], SM.nil⟩, S1⟩
    ·
      intro k tw D w2 hrel
      obtain ⟨⟨hk, hok, htw, hsm⟩, S2⟩ := hrel
      refine T_seq fun K9 hK9 => ?_
      refine T_region ?_
      refine L_y (y_lss rfl rfl) rfl ?_
      refine L_nil ?_
      refine hK9 _ _ ?_
      refine T_seq fun K10 hK10 => ?_
      refine T_cond rfl (fun h15 => ?_) (fun h15 => ?_)
      ·
        obtain ⟨x, hx⟩ : ∃ x, l[k]? = some x := ⟨_, List.getElem?_eq_getElem (by omega)⟩
        refine T_skip ?_
        refine hK10 _ _ ?_
        refine T_seq fun K11 hK11 => ?_
        refine T_block ?_
        refine T_seq fun K12 hK12 => ?_
        refine T_region ?_
        refine L_y (y_idx Try.underlying22 sz39 rfl rfl (S2.rd hl) (Nt.mk (by omega) : Nt _ (k)) (by omega)) rfl ?_
        refine L_y (y_ldp (f := enf) enf_len Try.underlying39 rfl sz39 rfl (S2.rd hl) (by omega) hx) rfl ?_
        refine L_o (o_alloc zz39 S2 rfl fun b3 w3 hb3 S3 => ?_)
        refine L_o (o_stW S3 1 rfl rfl rfl (szE x) ((enf_sz x).trans (by kernel_rfl)) (enf_one x) fun w4 S4 => ?_)
        refine L_nil ?_
        refine hK12 _ _ ?_
        refine T_seq fun K13 hK13 => ?_
        refine T_seq fun K14 hK14 => ?_
        refine T_region ?_
        refine L_y (y_fieldA 1 Try.underlying39 rfl sz3 rfl rfl rfl) rfl ?_
        refine L_y (y_ldc Try.underlying3 rfl rfl (((S4.blk 1 rfl).cell _).trans (by rfl))) rfl ?_
        refine L_o (o_call Try.func26 rfl rfl (mode_ x.md w4) rfl rfl ?_)
        rintro e5 w5 ⟨v5, rfl, l5, rfl⟩
        refine ⟨_, rfl, ?_⟩
        have S5 := S4.like l5
        refine L_y ((by first | exact y_notD rfl | exact y_not rfl)) rfl ?_
        refine L_nil ?_
        refine hK14 _ _ ?_
        refine T_cond rfl (fun h21 => ?_) (fun h21 => ?_)
        ·
          have hmd : ¬ mdOk x.md := h21
          refine T_seq fun K15 hK15 => ?_
          refine T_region ?_
          refine L_y (y_assign rfl) rfl ?_
          refine L_nil ?_
          refine hK15 _ _ ?_
          refine T_ret ?_
          refine ur ?_
          refine ret1 rfl rfl ?_
          exact ⟨_, rfl, S5.like0, congrArg (Value.int _) (chkE_one (by omega) ((chk1_at k hok (by omega)).trans (chk1_md hx hmd)) (by decide)).symm⟩
        ·
          have hmd : mdOk x.md := Decidable.not_not.1 h21
          refine T_skip ?_
          refine hK13 _ _ ?_
          refine T_seq fun K16 hK16 => ?_
          refine T_seq fun K17 hK17 => ?_
          refine T_region ?_
          refine L_y (y_fieldA 0 Try.underlying39 rfl sz9 rfl rfl rfl) rfl ?_
          refine L_y (y_ldc Try.underlying9 rfl rfl (((S5.blk 1 rfl).cell _).trans (by rfl))) rfl ?_
          refine L_o (o_call Try.func27 rfl rfl (pname x.nm w5) rfl rfl ?_)
          rintro e6 w6 ⟨v6, rfl, l6, rfl⟩
          refine ⟨_, rfl, ?_⟩
          have S6 := S5.like l6
          refine L_y ((by first | exact y_notD rfl | exact y_not rfl)) rfl ?_
          refine L_nil ?_
          refine hK17 _ _ ?_
          refine T_condB rfl (fun h25 => ?_) (fun h25 => ?_)
          ·
            have hnm : nmOk x.nm = false := by simpa using h25
            refine T_seq fun K18 hK18 => ?_
            refine T_region ?_
            refine L_y (y_assign rfl) rfl ?_
            refine L_nil ?_
            refine hK18 _ _ ?_
            refine T_ret ?_
            refine ur ?_
            refine ret1 rfl rfl ?_
            exact ⟨_, rfl, S6.like0, congrArg (Value.int _) (chkE_one (by omega) ((chk1_at k hok (by omega)).trans (chk1_nm hx hmd hnm)) (by decide)).symm⟩
          ·
            have hnm : nmOk x.nm = true := by simpa using h25
            refine T_skip ?_
            refine hK16 _ _ ?_
            refine T_seq fun K19 hK19 => ?_
            refine T_region ?_
            refine L_y (y_move rfl) rfl ?_
            refine L_y (y_move rfl) rfl ?_
            refine L_splitB 27 rfl (fun h27 => ?_) (fun h27 => ?_)
            ·
              refine L_gno rfl rfl rfl ?_
              refine L_gno rfl rfl rfl ?_
              refine L_gno rfl rfl rfl ?_
              refine L_gno rfl rfl rfl ?_
              refine L_y (y_pk rfl rfl) rfl ?_
              refine L_y (y_assign rfl) rfl ?_
              refine L_nil ?_
              refine hK19 _ _ ?_
              refine T_region ?_
              refine L_y (y_move rfl) rfl ?_
              refine L_y (y_fieldA 0 Try.underlying39 rfl sz9 rfl rfl rfl) rfl ?_
              refine L_y (y_ldc Try.underlying9 rfl rfl (((S6.blk 1 rfl).cell _).trans (by rfl))) rfl ?_
              refine L_o (o_mapUpZ S6 0 rfl Try.underlying9 Try.underlying57 Try.underlying4 rfl rfl rfl (Nat.le_trans x.h.2 (by decide)) (by omega) fun w8 S8 => ?_)
              refine L_nil ?_
              refine hK11 _ _ ?_
              refine T_region ?_
              refine L_y (y_add rfl rfl (i64w (by omega))) rfl ?_
              refine L_y (y_move rfl) rfl ?_
              refine L_nil ?_
              have hon2 : true = decide (¬ once (l.take (k + 1))) := by have h8 : ¬ once (l.take k) := of_decide_eq_true (htw.symm.trans h27); rw [eq_comm, decide_eq_true_iff]; exact fun h9 => h8 (once_down h9)
              have S9 := S8.drop (.cons_cons _ (.cons _ (.refl _)))
              refine ⟨k + 1, _, _, by omega, ⟨⟨by omega, ok_next hok hx hmd hnm, hon2, by rw [take_sn2 hx, List.map_append]; exact hsm.put x.nm⟩, S9⟩, ?_⟩
              exact (Sub.cons rfl (by first | rfl | exact congrArg (Value.int _) (by omega)) (Sub.cons rfl (by first | rfl | exact congrArg (Value.int _) (by omega)) (Sub.cons rfl rfl (Sub.cons rfl rfl (Sub.cons rfl rfl (Sub.cons rfl rfl (Sub.nil _)))))))
            ·
              refine L_gyes rfl rfl ?_
              refine L_y (y_move rfl) rfl ?_
              refine L_gyes rfl rfl ?_
              refine L_y (y_fieldA 0 Try.underlying39 rfl sz9 rfl rfl rfl) rfl ?_
              refine L_gyes rfl rfl ?_
              refine L_y (y_ldc Try.underlying9 rfl rfl (((S6.blk 1 rfl).cell _).trans (by rfl))) rfl ?_
              refine L_gyes rfl rfl ?_
              refine L_y (y_lookZ (S6.get 0 rfl) Try.underlying9 Try.underlying57 Try.underlying4 zz4 rfl rfl (Nat.le_trans x.h.2 (by decide)) hsm) rfl ?_
              refine L_y (y_pk rfl rfl) rfl ?_
              refine L_y (y_assign rfl) rfl ?_
              refine L_nil ?_
              refine hK19 _ _ ?_
              refine T_region ?_
              refine L_y (y_move rfl) rfl ?_
              refine L_y (y_fieldA 0 Try.underlying39 rfl sz9 rfl rfl rfl) rfl ?_
              refine L_y (y_ldc Try.underlying9 rfl rfl (((S6.blk 1 rfl).cell _).trans (by rfl))) rfl ?_
              refine L_o (o_mapUpZ S6 0 rfl Try.underlying9 Try.underlying57 Try.underlying4 rfl rfl rfl (Nat.le_trans x.h.2 (by decide)) (by omega) fun w9 S9 => ?_)
              refine L_nil ?_
              refine hK11 _ _ ?_
              refine T_region ?_
              refine L_y (y_add rfl rfl (i64w (by omega))) rfl ?_
              refine L_y (y_move rfl) rfl ?_
              refine L_nil ?_
              have hon2 : hasS ((l.take k).map EV.nm) x.nm = decide (¬ once (l.take (k + 1))) := by rw [Bool.eq_iff_iff, hasS_iff, decide_eq_true_iff]; have h8 : once (l.take k) := Decidable.not_not.1 (of_decide_eq_false (htw.symm.trans h27)); exact ⟨fun h => not_onceT hx h, fun h => Classical.byContradiction fun h9 => h (once_snoc hx h8 h9)⟩
              have S9 := S9.drop (.cons_cons _ (.cons _ (.refl _)))
              refine ⟨k + 1, _, _, by omega, ⟨⟨by omega, ok_next hok hx hmd hnm, hon2, by rw [take_sn2 hx, List.map_append]; exact hsm.put x.nm⟩, S9⟩, ?_⟩
              exact (Sub.cons rfl (by first | rfl | exact congrArg (Value.int _) (by omega)) (Sub.cons rfl (by first | rfl | exact congrArg (Value.int _) (by omega)) (Sub.cons rfl rfl (Sub.cons rfl rfl (Sub.cons rfl rfl (Sub.cons rfl rfl (Sub.nil _)))))))
      ·
        have hkn : k = n := by omega
        rw [List.take_of_length_le (by omega)] at htw
        have hc1 : chk1 l = 0 := (chk1_at k hok (by omega)).trans (by rw [List.drop_of_length_le (by omega)]; rfl)
        refine T_exit ?_
        refine hK7 _ _ ?_
        refine T_seq fun K20 hK20 => ?_
        refine T_seq fun K21 hK21 => ?_
        refine T_region ?_
        refine L_y (y_move rfl) rfl ?_
        refine L_nil ?_
        refine hK21 _ _ ?_
        refine T_condB rfl (fun h37 => ?_) (fun h37 => ?_)
        ·
          have hon : ¬ once l := of_decide_eq_true (htw.symm.trans h37)
          refine T_seq fun K22 hK22 => ?_
          refine T_region ?_
          refine L_y (y_assign rfl) rfl ?_
          refine L_nil ?_
          refine hK22 _ _ ?_
          refine T_ret ?_
          refine ur ?_
          refine ret1 rfl rfl ?_
          exact ⟨_, rfl, S2.like0, congrArg (Value.int _) (chkE_twice (by omega) hc1 hon).symm⟩
        ·
          have hon : once l := Decidable.not_not.1 (of_decide_eq_false (htw.symm.trans h37))
          refine T_skip ?_
          refine hK20 _ _ ?_
          refine T_seq fun K23 hK23 => ?_
          refine T_seq fun K24 hK24 => ?_
          refine T_region ?_
          refine L_y (y_assign rfl) rfl ?_
          refine L_nil ?_
          refine hK24 _ _ ?_
          refine T_block ?_
          refine T_loop1 [(0, _)] (fun (k : Nat) => [(7, .int .i64 (k : Int))]) (fun (k : Nat) => n - k) (fun (k : Nat) (w : World) => ((1 ≤ k ∧ (k ≤ n ∨ k = 1)) ∧ (∀ j x y, j + 1 < k → l[j]? = some x → l[j + 1]? = some y → ltK x y = true)) ∧ St w0 noM [] w) 1 (Sub.cons rfl (by first | rfl | exact congrArg (Value.int _) (by omega)) (Sub.nil _)) (Sub.cons rfl rfl (Sub.nil _)) ?_ ?_
          ·
            exact ⟨⟨⟨Nat.le_refl _, .inr rfl⟩, fun j x y hj => absurd hj (by omega)⟩, S2.drop (.cons _ (.refl _))⟩
          ·
            intro k w10 hrel
            obtain ⟨⟨⟨hk1, hk2⟩, hri⟩, S10⟩ := hrel
            refine T_seq fun K25 hK25 => ?_
            refine T_seq fun K26 hK26 => ?_
            refine T_region ?_
            refine L_y (y_move rfl) rfl ?_
            refine L_y (y_move rfl) rfl ?_
            refine L_y (y_len Try.underlying22 rfl) rfl ?_
            refine L_y (y_lss rfl rfl) rfl ?_
            refine L_nil ?_
            refine hK26 _ _ ?_
            refine T_cond rfl (fun h41 => ?_) (fun h41 => ?_)
            ·
              obtain ⟨x, hx⟩ : ∃ x, l[k - 1]? = some x := ⟨_, List.getElem?_eq_getElem (by omega)⟩
              obtain ⟨y, hy⟩ : ∃ y, l[k]? = some y := ⟨_, List.getElem?_eq_getElem (by omega)⟩
              refine T_skip ?_
              refine hK25 _ _ ?_
              refine T_seq fun K27 hK27 => ?_
              refine T_block ?_
              refine T_seq fun K28 hK28 => ?_
              refine T_tail 9 hmix (by kernel_rfl) fun w11 l11 K29 hK29 => ?_
              have S11 := S10.like l11
              refine HL_y (y_move rfl) rfl ?_
              refine HL_y (y_move rfl) rfl ?_
              refine HL_y (y_sub rfl rfl (i64w (by omega))) rfl ?_
              refine HL_y (y_idx Try.underlying22 sz39 rfl rfl (S11.rd hl) (Nt.mk (by omega) : Nt _ (k - 1)) (by omega)) rfl ?_
              refine HL_y (y_ldp (f := enf) enf_len Try.underlying39 rfl sz39 rfl (S11.rd hl) (by omega) hx) rfl ?_
              refine HL_y (y_move rfl) rfl ?_
              refine HL_y (y_move rfl) rfl ?_
              refine HL_y (y_idx Try.underlying22 sz39 rfl rfl (S11.rd hl) (Nt.mk (by omega) : Nt _ (k)) (by omega)) rfl ?_
              refine HL_y (y_ldp (f := enf) enf_len Try.underlying39 rfl sz39 rfl (S11.rd hl) (by omega) hy) rfl ?_
              refine HL_nil ?_
              refine hK29 _ ?_
              refine L_o (o_call Try.func25 rfl rfl (order x y w11) rfl rfl ?_)
              rintro e12 w12 ⟨v12, rfl, l12, v53, rfl, hv53⟩
              refine ⟨_, rfl, ?_⟩
              have S12 := S11.like l12
              refine L_y (y_geq rfl rfl) rfl ?_
              refine L_nil ?_
              refine hK28 _ _ ?_
              refine T_cond rfl (fun h54 => ?_) (fun h54 => ?_)
              ·
                have hxy : ltK x y = false := by cases h9 : ltK x y with | false => rfl | true => exact absurd (hv53.2 h9) (by omega)
                refine T_seq fun K30 hK30 => ?_
                refine T_region ?_
                refine L_y (y_assign rfl) rfl ?_
                refine L_nil ?_
                refine hK30 _ _ ?_
                refine T_ret ?_
                refine ur ?_
                refine ret1 rfl rfl ?_
                exact ⟨_, rfl, S12.like0, congrArg (Value.int _) (chkE_ord (by omega) hc1 hon ((risK_at l k hri (by omega)).trans (risK_no hx (by rw [show k - 1 + 1 = k by omega]; exact hy) hxy))).symm⟩
              ·
                have hxy : ltK x y = true := hv53.1 (by omega)
                refine T_skip ?_
                refine hK27 _ _ ?_
                refine T_region ?_
                refine L_y (y_move rfl) rfl ?_
                refine L_y (y_add rfl rfl (i64w (by omega))) rfl ?_
                refine L_y (y_assign rfl) rfl ?_
                refine L_nil ?_
                refine ⟨k + 1, by omega, ⟨⟨⟨by omega, by omega⟩, ris_next hri hx hy (by omega) hxy⟩, S12⟩, ?_⟩
                exact (Sub.cons rfl (congrArg (Value.int _) (by omega)) (Sub.cons rfl rfl (Sub.nil _)))
            ·
              refine T_exit ?_
              refine hK23 _ _ ?_
              refine T_seq fun K31 hK31 => ?_
              refine T_region ?_
              refine L_y (y_assign rfl) rfl ?_
              refine L_nil ?_
              refine hK31 _ _ ?_
              refine T_ret ?_
              refine ur ?_
              refine ret1 rfl rfl ?_
              exact ⟨_, rfl, S10.like0, congrArg (Value.int _) (chkE_ok (by omega) hc1 hon (risK_fin hri (by omega) (by omega))).symm⟩
end Go.Proofs.Ytmgimcdkeelnpaa


/-
  The document: Check.
-/
namespace Go.Proofs.Ytmgimcdkeelnpaa
open Go.RowKit Zk Zx
set_option linter.unusedVariables false
set_option linter.unusedSimpArgs false

theorem en_get (l : List EV) (k t : Nat) (x : EV) (hx : l[k]? = some x) (ht : t < 34) : (l.flatMap enf)[k * 34 + t]? = (enf x)[t]? := by
  have h := drop_hd2 hx
  have e : l = l.take k ++ x :: l.drop (k + 1) := by rw [← h, List.take_append_drop]
  have hk := (List.getElem?_eq_some_iff.1 hx).1
  rw [e, List.flatMap_append, List.flatMap_cons, List.getElem?_append_right (by rw [ens_len, List.length_take]; omega), ens_len, List.length_take, Nat.min_eq_left (by omega), Nat.add_sub_cancel_left, List.getElem?_append_left (by rw [enf_len]; exact ht)]
theorem en_nm {l : List EV} {k : Nat} {x : EV} (hx : l[k]? = some x) : (l.flatMap enf)[k * 34 + 0]? = some (.string x.nm) := (en_get l k 0 x hx (by omega)).trans rfl
end Go.Proofs.Ytmgimcdkeelnpaa


/-
  The second form's bound: what it gives of a law's arguments. General; nothing here names a program.
-/
namespace Go.Proofs.Ytmgimcdkeelnpaa.Zx
open Go.ChangeShapes Go.WideShapes Go.ChangeAt Go.RowKit Go.Deep Zk
set_option linter.unusedVariables false
section
variable {H : Type} {enc : TypeId × Value → H} {P : Program} {w : World} {base : Nat} {spare : Nat → Bool} {held : Bool}
theorem bulk_range {α : Type} (m : α → Nat) : ∀ (l : List α) (D : Nat → DataW H), (∀ i y, l[i]? = some y → m y ≤ Rows.uptoBulk (D i)) → (l.map m).sum ≤ Rows.uptoBulkAll ((List.range l.length).map D)
  | [], D, h => by simp
  | x :: l, D, h => by
    rw [List.length_cons, List.range_succ_eq_map, List.map_cons, List.map_cons, List.map_map, Rows.uptoBulkAll, List.sum_cons]
    have h1 := h 0 x rfl
    have h2 := bulk_range m l (D ∘ Nat.succ) (fun i y hy => h (i + 1) y hy)
    omega
/-- A slice whose elements are of many cells, with its bulk. -/
theorem read_rowNB {α : Type} (f : α → List Value) (φ : α → Prop) (m : α → Nat) (size : Nat) {t e : TypeId} (ht : P.underlying t = some (.slice e)) (hc : P.cellsOf e = size) (hpos : 0 < size) (hlen : ∀ y, (f y).length = size)
    (hread : ∀ n cs x, cs.length = size → DataW.trod enc P w base spare held n e cs = some x → ∃ y, cs = f y ∧ φ y ∧ m y ≤ Rows.uptoBulk x.1)
    {fuel : Nat} {cs : List Value} {x : DataW H × List MemPlace} (h : DataW.trod enc P w base spare held fuel t cs = some x) :
    ∃ A n c, ∃ l : List α, cs = [.slice A n c] ∧ Rs w size A n c (l.flatMap f) ∧ (∀ y ∈ l, φ y) ∧ l.length = n ∧ (l.map m).sum + 1 ≤ Rows.uptoBulk x.1 := by
  rcases open_slice ht h with ⟨rfl, rfl⟩ | ⟨a, len, cap, k, n, D, Pl, rfl, _, hl, hm, hmm, rfl, hi⟩
  · exact ⟨none, 0, 0, [], rfl, Rs.nil w size, (fun y hy => by cases hy), rfl, by simp [Rows.uptoBulk]⟩
  · have hle : len ≤ k := by rw [hmm]; split <;> omega
    rw [hc] at hi
    obtain ⟨l, hll, hp⟩ := list_of (fun i (y : α) => w.cells? base (a.add (i * size)) size = some (f y) ∧ φ y ∧ m y ≤ Rows.uptoBulk (D i)) len (fun i hil => by
      obtain ⟨cs', h1, h2⟩ := hi i (by omega)
      obtain ⟨y, h3, h4, h5⟩ := hread n cs' _ (World.cells?_some h1).2.1 h2
      exact ⟨y, by rw [← h3]; exact h1, h4, h5⟩)
    refine ⟨some a, len, cap, l, rfl, ⟨⟨by rw [flat_len f size hlen, hll], fun h0 => ⟨a, rfl, ?_, fun j u hu => ?_⟩⟩, hl, by unfold maxLen at hm; exact hm⟩, fun y hy => ?_, hll, ?_⟩
    · obtain ⟨cs', h1, h2⟩ := hi 0 (by omega)
      have h3 := (World.cells?_some h1).2.2 0 hpos
      rw [List.getElem?_eq_getElem (by rw [(World.cells?_some h1).2.1]; exact hpos)] at h3
      have := World.block_lt_of_cell? w _ h3
      rwa [block_of_add, block_of_add] at this
    · obtain ⟨i, y, h1, h2, h3⟩ := flat_get f size hlen l j u hu
      have h4 := (World.cells?_some (hp i y h1).1).2.2 (j - i * size) (by have := (List.getElem?_eq_some_iff.1 h3).1; rwa [hlen y] at this)
      rw [Go.Deep.add_add, show i * size + (j - i * size) = j by omega, h3] at h4
      exact h4
    · obtain ⟨i, hi2, rfl⟩ := List.getElem_of_mem hy
      exact (hp i _ (List.getElem?_eq_getElem hi2)).2.1
    · have h6 := bulk_range m l D (fun i y hy => (hp i y hy).2.2)
      rw [hll] at h6
      simp only [Rows.uptoBulk]
      omega
end
end Go.Proofs.Ytmgimcdkeelnpaa.Zx


/-
  The law TreeChecks.
-/
namespace Go.Proofs.Ytmgimcdkeelnpaa
open Go.RowKit Zk Zx
set_option linter.unusedVariables false
set_option linter.unusedSimpArgs false

section
open Go.ChangeShapes Go.WideShapes Go.ChangeAt Go.Deep
variable {H : Type} {enc : TypeId × Value → H} {w : World} {base : Nat} {spare : Nat → Bool} {held : Bool}
/-- An entry as it is read. -/
structure EW where
  nm : ByteArray
  md : Int
  id : List UInt8
  h : id.length = 32
def ewf (e : EW) : List Value := Value.string e.nm :: Value.int .i64 e.md :: bL e.id
theorem ewf_len (e : EW) : (ewf e).length = 34 := by simp [ewf, e.h]
theorem read_ew {fuel : Nat} {cs : List Value} {x : DataW H × List MemPlace} (hlen : cs.length = 34) (h : DataW.trod enc Try.prog w base spare held fuel 39 cs = some x) : ∃ e : EW, cs = ewf e ∧ e.nm.size ≤ Rows.uptoBulk x.1 := by
  obtain ⟨xs, n, _, hx, hl, hlen2, hg⟩ := DataW.trod_struct Try.underlying39 h
  have e0 := hg 0 _ rfl
  have e1 := hg 1 _ rfl
  have e2 := hg 2 _ rfl
  change DataW.trod enc Try.prog w base spare held n 9 ((cs.drop 0).take (Try.prog.cellsOf 9)) = _ at e0
  change DataW.trod enc Try.prog w base spare held n 3 ((cs.drop 1).take (Try.prog.cellsOf 3)) = _ at e1
  change DataW.trod enc Try.prog w base spare held n 37 ((cs.drop 2).take (Try.prog.cellsOf 37)) = _ at e2
  have c9 : Try.prog.cellsOf 9 = 1 := by kernel_rfl
  have c3 : Try.prog.cellsOf 3 = 1 := by kernel_rfl
  have c37 : Try.prog.cellsOf 37 = 32 := by kernel_rfl
  rw [c9] at e0
  rw [c3] at e1
  rw [c37] at e2
  have hxl : xs.length = 3 := hlen2
  match cs, hlen, xs, hxl with
  | v0 :: v1 :: vs, hlen, [y0, y1, y2], _ =>
    have e0 : DataW.trod enc Try.prog w base spare held n 9 [v0] = some y0 := e0
    have e1 : DataW.trod enc Try.prog w base spare held n 3 [v1] = some y1 := e1
    have e2 : DataW.trod enc Try.prog w base spare held n 37 (vs.take 32) = some y2 := e2
    rw [List.take_of_length_le (by simp at hlen; omega)] at e2
    obtain ⟨s, hs, z0, _⟩ := DataW.trod_string Try.underlying9 e0
    obtain ⟨i1, hi1, _, _⟩ := DataW.trod_int Try.underlying3 e1
    obtain ⟨z, hz, hcs⟩ := read_bytes Try.underlying37 Try.underlying5 (by kernel_rfl) (by kernel_rfl) e2
    cases hs
    cases hi1
    subst hcs
    refine ⟨⟨s, i1, z, hz⟩, rfl, ?_⟩
    rw [hx]
    simp only [Rows.uptoBulk, List.map_cons, List.map_nil, Rows.uptoBulkAll]
    rw [z0]
    simp only [Rows.uptoBulk, Array.length_toList]
    show s.data.size ≤ _
    omega
theorem open_ens {r : Reach} {b0 : Nat} {v : Value} {d : DataW H} {p : List MemPlace} (hv : Value.okWide Try.prog w r b0 22 v) (h : DataW.Trod enc Try.prog w base spare held 22 v d p) :
    ∃ A n c, ∃ l : List EW, v = .slice A n c ∧ Rs w 34 A n c (l.flatMap ewf) ∧ (l.map fun e => e.nm.size).sum + 1 ≤ Rows.uptoBulk d := by
  obtain ⟨fuel, hf⟩ := h
  obtain ⟨A, n, c, l, h1, h2, h3, h4, h5⟩ := read_rowNB ewf (fun _ => True) (fun e => e.nm.size) 34 Try.underlying22 (by kernel_rfl) (by decide) ewf_len (fun k cs x hl hx => by
    obtain ⟨o, ho, h7⟩ := read_ew hl hx
    exact ⟨o, ho, trivial, h7⟩) hf
  exact ⟨A, n, c, l, slice_of_cells Try.underlying22 hv h1, h2, h5⟩
theorem ew_ev : ∀ (l : List EW), (l.map fun e => e.nm.size).sum ≤ 1048576 → ∃ l2 : List EV, l.flatMap ewf = l2.flatMap enf ∧ (∀ e ∈ l2, e.nm.size ≤ 1048576) ∧ l2.length = l.length
  | [], _ => ⟨[], rfl, fun e he => (by cases he), rfl⟩
  | e :: l, h => by
    rw [List.map_cons, List.sum_cons] at h
    obtain ⟨l2, h1, h2, h3⟩ := ew_ev l (by omega)
    refine ⟨⟨e.nm, e.md, e.id, e.h, by omega⟩ :: l2, ?_, fun x hx => ?_, by rw [List.length_cons, List.length_cons, h3]⟩
    · rw [List.flatMap_cons, List.flatMap_cons, h1]
      rfl
    · rcases List.mem_cons.1 hx with rfl | hx
      · show e.nm.size ≤ _
        omega
      · exact h2 x hx
end
def wE1 : EV := ⟨⟨#[97]⟩, 3, List.replicate 32 0, by decide⟩
def wE2 : EV := ⟨⟨#[97, 48]⟩, 1, List.replicate 32 0, by decide⟩
def wE3 : EV := ⟨⟨#[97, 46, 98]⟩, 1, List.replicate 32 0, by decide⟩
theorem ltK_bl : ltK = fun x y => bl (keyB x).data.toList (keyB y).data.toList := by funext x y; exact sLt_bl _ _
theorem wsrt : srt ltK [wE1, wE2, wE3] = [wE3, wE1, wE2] := by
  rw [ltK_bl]
  decide +kernel
theorem wchk : chkE [wE3, wE1, wE2] = 0 := by
  refine chkE_ok (by decide) (by decide +kernel) (by decide +kernel) ?_
  show (ltK wE3 wE1 && (ltK wE1 wE2 && true)) = true
  rw [ltK_bl]
  decide +kernel
theorem psortedW (A : Option Addr) (c : Nat) (w0 : World) (hl : Rs w0 34 A 3 c ([wE1, wE2, wE3].flatMap enf)) :
    Calls Try.prog 9 #[.slice A 3 c] w0 fun e w' => ∃ u, e = .returned u ∧ Like w0 w' ∧ ∃ A' c', u = .slice A' 3 c' ∧ w'.ownsRow w0.heap.size 39 34 (.slice A' 3 c') 3 ([wE3, wE1, wE2].flatMap enf) := by
  have h := psorted A c [wE1, wE2, wE3] w0 hl (by decide)
  rw [wsrt] at h
  exact h


set_option maxRecDepth 100000 in
theorem works  (w0 : World)  :
    Calls Try.prog 8 #[] w0 fun e w' => ∃ u, e = .returned u ∧ Like w0 w' ∧ u = .bool true := by
  refine enter1 (env := []) [] Try.func8 rfl Try.ntmps8 rfl rfl ?_
  have S0 := St.start w0 noM
  refine T_seq fun K1 hK1 => ?_
  refine T_region ?_
  refine L_y (y_assign rfl) rfl ?_
  refine L_nil ?_
  refine hK1 _ _ ?_
  refine T_seq fun K2 hK2 => ?_
  refine T_region ?_
  refine L_y (y_build rfl (show _ = some (enf wE1).toArray by kernel_rfl)) rfl ?_
  refine L_y (y_build rfl (show _ = some (enf wE2).toArray by kernel_rfl)) rfl ?_
  refine L_y (y_build rfl (show _ = some (enf wE3).toArray by kernel_rfl)) rfl ?_
  refine L_o (o_bsl ([wE1, wE2, wE3].flatMap enf) te22 zz39 S0 rfl rfl rfl (by kernel_rfl) (by kernel_rfl) rfl rfl rfl fun b1 w1 S1 => ?_)
  refine L_o (o_call Try.func9 rfl rfl (psortedW _ _ w1 (S1.row 0 rfl)) rfl rfl ?_)
  rintro e2 w2 ⟨v2, rfl, l2, A6, c6, rfl, O2⟩
  refine ⟨_, rfl, ?_⟩
  have S2 := S1.adopt l2 O2
  refine L_y (y_assign rfl) rfl ?_
  refine L_nil ?_
  refine hK2 _ _ ?_
  refine T_seq fun K3 hK3 => ?_
  refine T_region ?_
  refine L_y (y_move rfl) rfl ?_
  refine L_y (y_len Try.underlying22 rfl) rfl ?_
  refine L_y (y_eql rfl rfl) rfl ?_
  refine L_y (y_move rfl) rfl ?_
  refine L_split 10 rfl (fun h10 => ?_) (fun h10 => ?_)
  ·
    refine L_gyes rfl rfl ?_
    refine L_y (y_move rfl) rfl ?_
    refine L_gyes rfl rfl ?_
    refine L_y (y_idx Try.underlying22 sz39 rfl rfl (S2.row 1 rfl) (Nt.mk rfl : Nt _ (0)) (by omega)) rfl ?_
    refine L_gyes rfl rfl ?_
    refine L_y (y_fieldR 0 Try.underlying39 rfl sz9 rfl rfl (S2.row 1 rfl) (by omega) rfl) rfl ?_
    refine L_gyes rfl rfl ?_
    refine L_y (y_ldf Try.underlying9 rfl rfl (S2.row 1 rfl) (by omega) (en_nm (l := [wE3, wE1, wE2]) (k := 0) (x := wE3) rfl)) rfl ?_
    refine L_gyes rfl rfl ?_
    refine L_y (y_seql rfl rfl) rfl ?_
    refine L_y (y_pk rfl rfl) rfl ?_
    refine L_y (y_move rfl) rfl ?_
    refine L_split 17 rfl (fun h17 => ?_) (fun h17 => ?_)
    ·
      refine L_gyes rfl rfl ?_
      refine L_y (y_move rfl) rfl ?_
      refine L_gyes rfl rfl ?_
      refine L_y (y_idx Try.underlying22 sz39 rfl rfl (S2.row 1 rfl) (Nt.mk rfl : Nt _ (1)) (by omega)) rfl ?_
      refine L_gyes rfl rfl ?_
      refine L_y (y_fieldR 0 Try.underlying39 rfl sz9 rfl rfl (S2.row 1 rfl) (by omega) rfl) rfl ?_
      refine L_gyes rfl rfl ?_
      refine L_y (y_ldf Try.underlying9 rfl rfl (S2.row 1 rfl) (by omega) (en_nm (l := [wE3, wE1, wE2]) (k := 1) (x := wE1) rfl)) rfl ?_
      refine L_gyes rfl rfl ?_
      refine L_y (y_seql rfl rfl) rfl ?_
      refine L_y (y_pk rfl rfl) rfl ?_
      refine L_y (y_move rfl) rfl ?_
      refine L_split 24 rfl (fun h24 => ?_) (fun h24 => ?_)
      ·
        refine L_gyes rfl rfl ?_
        refine L_y (y_move rfl) rfl ?_
        refine L_gyes rfl rfl ?_
        refine L_y (y_idx Try.underlying22 sz39 rfl rfl (S2.row 1 rfl) (Nt.mk rfl : Nt _ (2)) (by omega)) rfl ?_
        refine L_gyes rfl rfl ?_
        refine L_y (y_fieldR 0 Try.underlying39 rfl sz9 rfl rfl (S2.row 1 rfl) (by omega) rfl) rfl ?_
        refine L_gyes rfl rfl ?_
        refine L_y (y_ldf Try.underlying9 rfl rfl (S2.row 1 rfl) (by omega) (en_nm (l := [wE3, wE1, wE2]) (k := 2) (x := wE2) rfl)) rfl ?_
        refine L_gyes rfl rfl ?_
        refine L_y (y_seql rfl rfl) rfl ?_
        refine L_y (y_pk rfl rfl) rfl ?_
        refine L_y (y_move rfl) rfl ?_
        refine L_split 31 rfl (fun h31 => ?_) (fun h31 => ?_)
        ·
          refine L_gyes rfl rfl ?_
          refine L_y (y_move rfl) rfl ?_
          refine L_gyes rfl rfl ?_
          refine L_o (o_call Try.func10 rfl rfl (pcheck A6 3 c6 [wE3, wE1, wE2] w2 (S2.row 1 rfl) (by decide)) rfl rfl ?_)
          rintro e7 w7 ⟨v7, rfl, l7, rfl⟩
          refine ⟨_, rfl, ?_⟩
          have S7 := S2.like l7
          rw [wchk]
          refine L_gyes rfl rfl ?_
          refine L_y (y_eql rfl rfl) rfl ?_
          refine L_y (y_pk rfl rfl) rfl ?_
          refine L_y (y_assign rfl) rfl ?_
          refine L_nil ?_
          refine hK3 _ _ ?_
          refine T_ret ?_
          refine ur ?_
          refine ret1 rfl rfl ?_
          exact ⟨_, rfl, S7.like0, rfl⟩
        ·
          exact absurd rfl h31
      ·
        exact absurd rfl h24
    ·
      exact absurd rfl h17
  ·
    exact absurd rfl h10


end Go.Proofs.Ytmgimcdkeelnpaa


/-
  The order by names; what entries are.
-/
namespace Go.Proofs.Ytmgimcdkeelnpaa.Mrg
open Go.RowKit Zk Zx
set_option linter.unusedVariables false
set_option linter.unusedSimpArgs false
def ltN (x y : EV) : Bool := sLt x.nm y.nm
theorem ordN : Ord3 ltN := by
  have h := ordBl fun e : EV => e.nm.data.toList
  have e : ltN = fun x y => bl x.nm.data.toList y.nm.data.toList := by funext x y; exact sLt_bl _ _
  rw [e]
  exact h
set_option maxRecDepth 100000 in
theorem bynam (x y : EV) (w0 : World)  :
    Calls Try.prog 48 #[.agg (enf x).toArray, .agg (enf y).toArray] w0 fun e w' => ∃ u, e = .returned u ∧ Like w0 w' ∧ ∃ v : Int, u = .int .i64 v ∧ (v < 0 ↔ ltN x y = true) := by
  refine enter1 (env := [(0, .agg (enf x).toArray), (1, .agg (enf y).toArray)]) [.agg (enf x).toArray, .agg (enf y).toArray] Try.func48 rfl Try.ntmps48 rfl rfl ?_
  have S0 := St.start w0 noM
  refine T_seq fun K1 hK1 => ?_
  refine T_region ?_
  refine L_o (o_box rfl S0 rfl fun b1 w1 hb1 S1 => ?_)
  refine L_o (o_box rfl S1 rfl fun b2 w2 hb2 S2 => ?_)
  refine L_y (y_assign rfl) rfl ?_
  refine L_nil ?_
  refine hK1 _ _ ?_
  refine T_seq fun K2 hK2 => ?_
  refine T_region ?_
  refine L_y (y_fieldA 0 Try.underlying39 rfl sz9 rfl rfl rfl) rfl ?_
  refine L_y (y_ldc Try.underlying9 rfl rfl (((S2.blk 0 rfl).cell _).trans (by rfl))) rfl ?_
  refine L_y (y_fieldA 0 Try.underlying39 rfl sz9 rfl rfl rfl) rfl ?_
  refine L_y (y_ldc Try.underlying9 rfl rfl (((S2.blk 1 rfl).cell _).trans (by rfl))) rfl ?_
  refine L_o (o_call Try.func35 rfl rfl (compar _ _ w2) rfl rfl ?_)
  rintro e3 w3 ⟨v3, rfl, l3, v9, rfl, hv9⟩
  refine ⟨_, rfl, ?_⟩
  have S3 := S2.like l3
  refine L_y (y_assign rfl) rfl ?_
  refine L_nil ?_
  refine hK2 _ _ ?_
  refine T_ret ?_
  refine ur ?_
  refine ret1 rfl rfl ?_
  exact ⟨_, rfl, S3.like0, v9, rfl, hv9⟩


theorem cmpN : CMP 48 ltN := ⟨ordN, ⟨_, Try.func48, by kernel_rfl, by kernel_rfl⟩, fun x y w => bynam x y w⟩


theorem rs_nil {w : World} {A : Option Addr} {n c : Nat} {l : List EV} (hl : Rs w 34 A n c (l.flatMap enf)) (h : A = none) : l = [] := by
  subst h
  have h2 := ens_n hl
  rcases Nat.eq_zero_or_pos n with q | q
  · exact List.eq_nil_of_length_eq_zero (by omega)
  · obtain ⟨_, h2, _⟩ := hl.rd.2 q
    cases h2
set_option maxRecDepth 100000 in
theorem clone (A : Option Addr) (c : Nat) (l : List EV) (w0 : World) (hl : Rs w0 34 A l.length c (l.flatMap enf)) (hn5 : l.length ≤ 10000) :
    Calls Try.prog 23 #[.slice A l.length c] w0 fun e w' => ∃ u, e = .returned u ∧ Like w0 w' ∧ ∃ A' c', u = .slice A' l.length c' ∧ w'.ownsRow w0.heap.size 39 34 (.slice A' l.length c') l.length (l.flatMap enf) := by
  refine enter1 (env := [(0, .slice A l.length c)]) [.slice A l.length c] Try.func23 rfl Try.ntmps23 rfl rfl ?_
  have hcap := hl.cap; have hmax := hl.max; have S0 := St.start w0 noM
  refine T_seq fun K1 hK1 => ?_
  refine T_region ?_
  refine L_y (y_assign rfl) rfl ?_
  refine L_nil ?_
  refine hK1 _ _ ?_
  refine T_seq fun K2 hK2 => ?_
  refine T_seq fun K3 hK3 => ?_
  refine T_region ?_
  refine L_y (y_move rfl) rfl ?_
  refine L_y (y_seqn Try.underlying22 rfl) rfl ?_
  refine L_nil ?_
  refine hK3 _ _ ?_
  refine T_condB rfl (fun h4 => ?_) (fun h4 => ?_)
  ·
    refine T_seq fun K4 hK4 => ?_
    refine T_region ?_
    refine L_y (y_assign rfl) rfl ?_
    refine L_nil ?_
    refine hK4 _ _ ?_
    refine T_ret ?_
    refine ur ?_
    refine ret1 rfl rfl ?_
    first | exact ⟨_, rfl, S0.like0, _, _, by rw [Nat.zero_add], by have h9 := S0.own 0 rfl; rw [Nat.zero_add] at h9; exact h9⟩ | (have hz := rs_nil hl (by simpa using h4); subst hz; exact ⟨_, rfl, S0.like0, none, 0, rfl, World.ownsRow_nil _ _ _ _⟩)
  ·
    refine T_skip ?_
    refine hK2 _ _ ?_
    refine T_seq fun K5 hK5 => ?_
    refine T_region ?_
    refine L_o (o_bsl0 te22 S0 rfl fun b1 w1 l1 S1 => ?_)
    refine L_y (y_move rfl) rfl ?_
    refine L_o (o_app te22 S1 0 rfl rfl rfl (S1.rd hl) (ens_one _) rfl (by omega) (by omega) fun A2 c2 w2 S2 => ?_)
    refine L_y (y_assign rfl) rfl ?_
    refine L_nil ?_
    refine hK5 _ _ ?_
    refine T_ret ?_
    refine ur ?_
    refine ret1 rfl rfl ?_
    first | exact ⟨_, rfl, S2.like0, _, _, by rw [Nat.zero_add], by have h9 := S2.own 0 rfl; rw [Nat.zero_add] at h9; exact h9⟩ | (have hz := rs_nil hl (by simpa using h4); subst hz; exact ⟨_, rfl, S2.like0, none, 0, rfl, World.ownsRow_nil _ _ _ _⟩)


theorem en_id (e : EV) : (enf e).toArray.extract 2 (2 + 32) = bA e.id := by
  apply Array.ext'
  rw [Array.toList_extract]
  simp only [enf, bA]
  rw [List.extract_eq_take_drop]
  show List.take 32 (bL e.id) = bL e.id
  exact List.take_of_length_le (by simp [bL, e.h.1])
theorem en_get (l : List EV) (k t : Nat) (x : EV) (hx : l[k]? = some x) (ht : t < 34) : (l.flatMap enf)[k * 34 + t]? = (enf x)[t]? := by
  have h := drop_hd2 hx
  have e : l = l.take k ++ x :: l.drop (k + 1) := by rw [← h, List.take_append_drop]
  have hk := (List.getElem?_eq_some_iff.1 hx).1
  rw [e, List.flatMap_append, List.flatMap_cons, List.getElem?_append_right (by rw [ens_len, List.length_take]; omega), ens_len, List.length_take, Nat.min_eq_left (by omega), Nat.add_sub_cancel_left, List.getElem?_append_left (by rw [enf_len]; exact ht)]
theorem en_nm {l : List EV} {k : Nat} {x : EV} (hx : l[k]? = some x) : (l.flatMap enf)[k * 34 + 0]? = some (.string x.nm) := (en_get l k 0 x hx (by omega)).trans rfl
theorem enf_sz (x : EV) : (enf x).toArray.size = 34 := by rw [List.size_toArray, enf_len]
end Go.Proofs.Ytmgimcdkeelnpaa.Mrg


/-
  A range over a function: the statement, a round of its body, the function's end. General; nothing here names a program.
-/
namespace Go.Proofs.Ytmgimcdkeelnpaa.Zx
open Go.RowKit Zk
set_option linter.unusedVariables false
set_option linter.unusedSimpArgs false
/-- The frame of a function (none) or of a round of loop l. -/
def WF (r : Option Nat) : Fence := { Fence.wide with round := r }
theorem calls_in {r : Option Nat} {n : Nat} {P : Program} {f : FuncId} {args : Array Value} {w : World} {R : Ending → World → Prop} (h : Calls P f args w R) : CallsIn (WF r) n P f args w R :=
  (callsIn_wide.2 h : CallsIn Fence.wide n P f args w R)
theorem rows_in {r : Option Nat} {n : Nat} {P : Program} {row : String} {args : Array Value} {w : World} {R : Value → World → Prop} (h : Rows P row args w R) : RowsIn (WF r) n P row args w R :=
  fun c cs _ => let ⟨v, w', h1, h2⟩ := h c cs; ⟨v, w', h1, (stepsIn_wide.2 h2 : StepsIn (Machine.fenced P Fence.wide) P _ _)⟩
theorem upon_in {r : Option Nat} {P : Program} {o : Oper} {a : Act} {next : Act → World → Prop} {Q : Exit → Act → World → Prop} {x : Result Next} (h : o.upon P a next Q x) : o.uponIn (WF r) 0 P a next Q x := by
  cases x with
  | halt hh w' => cases hh <;> exact h
  | ok v w' =>
    cases v with
    | enter f args => exact ⟨fun h => by simp [WF, Fence.wide] at h, calls_in h⟩
    | row row args => exact ⟨fun h => by simp [WF, Fence.wide] at h, rows_in h⟩
    | round l f tmps assign body => exact h.elim
    | _ => exact h
section
variable {P : Program} {r : Option Nat} {N : Nat} {Q : Post} {env : Env} {w w0 : World} {M : Nat → Prop} {rs ps : List Res}
def TW (P : Program) (r : Option Nat) (N : Nat) (c : Code) (Q : Post) (env : Env) (w : World) : Prop := ∀ a, Fits N env a → c.wpIn (WF r) 0 P (lift N Q) a w
def LW (P : Program) (r : Option Nat) (N : Nat) (ops : Array Oper) (Q : Post) (rest : List Oper) (env : Env) (w : World) : Prop := ∀ a, Fits N env a → wpListIn (WF r) 0 P ops (lift N Q) rest a w
theorem T_wide {c : Code} (h : TW P none N c Q env w) : T P N c Q env w := fun a ha => wpIn_wide.1 (h a ha)
theorem TW_region {id : Nat} {l : List Oper} (h : LW P r N l.toArray Q l env w) : TW P r N (.region id l.toArray false) Q env w := fun a ha => wpIn_region_lit (h a ha)
theorem T_regionW {id : Nat} {l : List Oper} (h : LW P none N l.toArray Q l env w) : T P N (.region id l.toArray false) Q env w := T_wide (TW_region h)
theorem TW_block {id : Nat} {c : Code} (h : TW P r N c (inB id Q) env w) : TW P r N (.block id c) Q env w := fun a ha =>
  wpIn_block (wpIn_mono (h a ha) (by
    intro e a w h
    cases e with
    | normal => exact h
    | panic c => exact h
    | outgrown => exact h.elim
    | exit i =>
      obtain ⟨e', h3, h4⟩ := h
      simp only [inB] at h4
      simp only [Exit.inBlock]
      split
      · rename_i hi
        rw [if_pos hi] at h4
        exact ⟨e', h3, h4⟩
      · rename_i hi
        rw [if_neg hi] at h4
        exact ⟨e', h3, h4⟩
    | goto l => exact h
    | ret => exact h))
theorem LW_nil {ops : Array Oper} (h : Q .normal env w) : LW P r N ops Q [] env w := fun a ha => ⟨env, ha, h⟩
theorem LW_o {ops : Array Oper} {rest : List Oper} {d : Option Tmp} {op : Op} {ty : TypeId} {pos : String} {after : Array Edge} (h : O P N Q ⟨d, op, ty, pos, after, none⟩ env w (LW P r N ops Q rest)) (hdef : ∀ c, op ≠ .defer c := by intro c h; cases h) :
    LW P r N ops Q (⟨d, op, ty, pos, after, none⟩ :: rest) env w := fun a ha =>
  wpListIn_plain rfl fun K hK => ⟨fun _ _ => trivial, by
    rw [Oper.semAt_eq _ _ _ hdef]
    exact upon_in (Oper.wp_mono (fun a w ⟨e', h1, h2⟩ => hK _ _ (h2 a h1)) (h a ha))⟩
theorem LW_y {ops : Array Oper} {rest : List Oper} {d : Tmp} {op : Op} {ty : TypeId} {pos : String} {after : Array Edge} {v : Value}
    (hy : Y P (Like w) env ⟨some d, op, ty, pos, after, none⟩ v) (hd : Nat.blt d N = true) (h : LW P r N ops Q rest ((d, v) :: env) w) (hdef : ∀ c, op ≠ .defer c := by intro c h; cases h) : LW P r N ops Q (⟨some d, op, ty, pos, after, none⟩ :: rest) env w :=
  LW_o (o_y hy (Like.refl w) hd h) hdef
/-- A call of the loop's yield. -/
theorem LW_yield {ops : Array Oper} {rest : List Oper} {d : Tmp} {v : Operand} {xs : Array Operand} {ts : Array TypeId} {ty : TypeId} {pos : String} {after : Array Edge} {l : Nat} {vs : List Value} {R : Ending → World → Prop}
    (hv : ev env v = some (.func (.yield l) #[] #[])) (hargs : evl env xs.toList = some vs) (hy : YieldAt (WF none) 0 P l vs.toArray w R) (hd : Nat.blt d N = true)
    (h : ∀ e w', R e w' → ∃ u, e = .returned u ∧ LW P none N ops Q rest ((d, u) :: env) w') : LW P none N ops Q (⟨some d, .call { callee := .value v, args := xs, argTypes := ts }, ty, pos, after, none⟩ :: rest) env w := fun a ha =>
  wpListIn_plain rfl fun K hK => ⟨fun _ _ => trivial, by
    have hmap : xs.map a.eval = vs.toArray := by
      rw [← evl_map ha xs.toList vs hargs]
      apply Array.ext'
      simp
    obtain ⟨fn, tmps, assign, body, h1, h2⟩ := hy
    rw [Oper.semAt_eq _ _ _ (by intro c h; cases h)]
    have hrun : (execOp a.eval ⟨some d, .call { callee := .value v, args := xs, argTypes := ts }, ty, pos, after, none⟩).run P w = .ok (.round l fn tmps assign body) w := by
      simp only [execOp, resolve, hmap, ha.eval hv, Deferred.ofValue, invoke, Sem.run_bind, Sem.run_pure, Result.andThen_ok, Array.append_empty, Array.empty_append, h1]
    rw [hrun]
    refine ⟨fun h => by simp [WF, Fence.wide] at h, RoundIn.mono h2 fun e w' hR => ?_⟩
    obtain ⟨u, rfl, hK2⟩ := h e w' hR
    exact hK _ _ (hK2 _ (ha.put d u hd))⟩

/-- An object of the heap that is no row of cells. -/
def objR (b : Nat) (o : Obj) : Res where
  dom i := i = b
  holds w := w.heap[b]? = some o
  stable w w' h hh := (h b rfl).trans hh
/-- Two pieces as one, and apart. -/
def apR (r s : Res) : Res where
  dom i := r.dom i ∨ s.dom i
  holds w := r.holds w ∧ s.holds w ∧ ∀ i, r.dom i → ¬ s.dom i
  stable w w' h hh := ⟨r.stable w w' (fun i hi => h i (.inl hi)) hh.1, s.stable w w' (fun i hi => h i (.inr hi)) hh.2.1, hh.2.2⟩
theorem St.joinA {q s : Res} (S : St w0 M (ps ++ [q, s]) w) : St w0 M (ps ++ [apR q s]) w := by
  have hap := List.pairwise_append.1 S.apart
  have hqs : ∀ i, q.dom i → ¬ s.dom i := (List.pairwise_cons.1 hap.2.1).1 s (by simp)
  refine ⟨S.os, S.tape, S.output, S.size, S.old, fun x hx => ?_, ?_⟩
  · rcases List.mem_append.1 hx with hx | hx
    · exact S.res x (List.mem_append_left _ hx)
    · obtain rfl := List.mem_singleton.1 hx
      have h1 := S.res q (List.mem_append_right _ (by simp))
      have h2 := S.res s (List.mem_append_right _ (by simp))
      exact ⟨⟨h1.1, h2.1, hqs⟩, fun i hi => hi.elim (h1.2 i) (h2.2 i)⟩
  · rw [List.pairwise_append]
    refine ⟨hap.1, List.pairwise_singleton _ _, fun a ha b hbm i hi hbi => ?_⟩
    obtain rfl := List.mem_singleton.1 hbm
    rcases hbi with hbi | hbi
    · exact hap.2.2 a ha q (by simp) i hi hbi
    · exact hap.2.2 a ha s (by simp) i hi hbi
theorem St.splitA {q s : Res} (S : St w0 M (ps ++ [apR q s]) w) : St w0 M (ps ++ [q, s]) w := by
  have hap := List.pairwise_append.1 S.apart
  have h0 := S.res (apR q s) (List.mem_append_right _ (by simp))
  refine ⟨S.os, S.tape, S.output, S.size, S.old, fun x hx => ?_, ?_⟩
  · rcases List.mem_append.1 hx with hx | hx
    · exact S.res x (List.mem_append_left _ hx)
    · rcases List.mem_cons.1 hx with rfl | hx
      · exact ⟨h0.1.1, fun i hi => h0.2 i (.inl hi)⟩
      · obtain rfl := List.mem_singleton.1 hx
        exact ⟨h0.1.2.1, fun i hi => h0.2 i (.inr hi)⟩
  · rw [List.pairwise_append]
    refine ⟨hap.1, List.pairwise_cons.2 ⟨fun x hx => ?_, List.pairwise_singleton _ _⟩, fun a ha b hbm i hi hbi => ?_⟩
    · obtain rfl := List.mem_singleton.1 hx
      exact h0.1.2.2
    · have h1 := hap.2.2 a ha (apR q s) (by simp) i hi
      rcases List.mem_cons.1 hbm with rfl | hbm
      · exact h1 (.inl hbi)
      · obtain rfl := List.mem_singleton.1 hbm
        exact h1 (.inr hbi)
/-- One block's object is another now. -/
theorem St.putO (S : St w0 M rs w) (k : Nat) {b : Nat} {o : Obj} (o' : Obj) (hk : rs[k]? = some (objR b o)) : St w0 M (rs.set k (objR b o')) (w.putObj b o') := by
  have hlt := ((S.res (objR b o) (List.mem_of_getElem? hk)).2 b rfl).1
  exact S.upd k hk rfl rfl rfl (by simp) (fun i hi hn => World.putObj_heap_other hn) (World.putObj_heap_same hlt) fun i hi => .inl hi
/-- What the caller has, and the loop's two objects. -/
def loopR (C : Res) (D l : Nat) (o : Loop) : Res := apR C (apR (objR D (.deferred (some []))) (objR l (.loop o)))
theorem loop_open {C : Res} {D l : Nat} {o : Loop} (S : St w0 M (ps ++ [loopR C D l o]) w) : St w0 M (ps ++ [C, objR D (.deferred (some [])), objR l (.loop o)]) w := by
  have h := S.splitA
  have e : ps ++ [C, apR (objR D (.deferred (some []))) (objR l (.loop o))] = (ps ++ [C]) ++ [apR (objR D (.deferred (some []))) (objR l (.loop o))] := by simp
  rw [e] at h
  have h2 := h.splitA
  simpa using h2
theorem loop_shut {C : Res} {D l : Nat} {o : Loop} (S : St w0 M (ps ++ [C, objR D (.deferred (some [])), objR l (.loop o)]) w) : St w0 M (ps ++ [loopR C D l o]) w := by
  have e : ps ++ [C, objR D (.deferred (some [])), objR l (.loop o)] = (ps ++ [C]) ++ [objR D (.deferred (some [])), objR l (.loop o)] := by simp
  rw [e] at S
  have h2 := S.joinA
  rw [List.append_assoc] at h2
  exact h2.joinA

/-- What is asked of a round's end. -/
def roundQ {σ α : Type} (C : σ → Res) (out : σ → List α) (l D : Nat) (o : Loop) (W0 : World) (M : Nat → Prop) (zs : List α) : Post
  | .normal, _, w => ∃ s' rs3, out s' = zs ∧ St W0 M ([C s', objR D (.deferred (some [])), objR l (.loop o)] ++ rs3) w
  | _, _, _ => False
def noneQ : Post := fun _ _ _ => False
/-- One round, out of the walks of the assignment and of the body. -/
theorem round_at {σ α : Type} {C : σ → Res} {out : σ → List α} {enc : α → Value} {l D : Nat} {fn : FuncId} {tmps : Array Value} {p : Tmp} {assign body : Code} {o : Loop} (ho : o = { state := .ready, pending := none, fn, tmps, params := #[p], assign, body, defers := D })
    (hfit : Fits N env { tmps, defers := [] }) (hp : Nat.blt p N = true) (s : σ) (x : α)
    (hround : ∀ (W0 : World) (M : Nat → Prop) (W : World) (o2 : Loop), St W0 M [C s, objR D (.deferred (some [])), objR l (.loop o)] W →
      TW P (some l) N assign (thenQ (fun e1 w1 => ∃ rs1, St W0 M ([C s, objR D (.deferred (some [])), objR l (.loop o)] ++ rs1) w1 ∧
        ∀ w2, St W0 M ([C s, objR D (.deferred (some [])), objR l (.loop o2)] ++ rs1) w2 → TW P (some l) N body (roundQ C out l D o2 W0 M (out s ++ [x])) e1 w2) noneQ) ((p, enc x) :: env) W)
    {W : World} (h : (loopR (C s) D l o).holds W) (hlt : ∀ i, (loopR (C s) D l o).dom i → i < W.heap.size) :
    YieldAt (WF none) 0 P l #[enc x] W fun e W' => e = .returned (.bool true) ∧ ∃ s', out s' = out s ++ [x] ∧ Turned W W' (loopR (C s) D l o) (loopR (C s') D l o) := by
  have S0 := St.borrow1 (loopR (C s) D l o) h hlt
  have S1 : St W (loopR (C s) D l o).dom [C s, objR D (.deferred (some [])), objR l (.loop o)] W := loop_open (ps := []) S0
  have hl : W.heap[l]? = some (.loop o) := S1.get 2 rfl
  have hy := run_yield (P := P) (args := #[enc x]) hl (by rw [ho]; rfl)
  rw [ho] at hy
  refine ⟨fn, _, assign, body, hy, roundIn_of_wpIn (F := WF none) trivial ?_⟩
  have hput := hfit.put p (enc x) hp
  have e : ((#[p].zip #[enc x]).foldl (fun tmps (t, a) => tmps.setIfInBounds t a) tmps : Array Value) = tmps.setIfInBounds p (enc x) := by simp
  refine wpIn_mono (hround W _ W { o with state := .busy } S1 { tmps := ((#[p].zip #[enc x]).foldl (fun tmps (t, a) => tmps.setIfInBounds t a) tmps : Array Value), defers := [] } (by rw [e]; exact hput)) fun e a1 w1 hq => ?_
  cases e with
  | normal =>
    obtain ⟨e1, hf1, rs1, S2, hnext⟩ := hq
    have hl2 : w1.heap[l]? = some (.loop o) := S2.get 2 rfl
    have S3 := S2.putO 2 (.loop { o with state := .busy }) rfl
    refine ⟨_, run_beginRound hl2 (by rw [ho]), ?_⟩
    refine wpIn_mono (hnext _ S3 a1 hf1) fun e a2 w3 hq2 => ?_
    cases e with
    | normal =>
      obtain ⟨e2, hf2, s', rs3, hout, S4⟩ := hq2
      have hl4 : w3.heap[l]? = some (.loop { o with state := .busy }) := S4.get 2 rfl
      have S5 := S4.putO 2 (.loop { ({ o with state := .busy } : Loop) with state := .ready, pending := none }) rfl
      have S6 := S5.drop (rs' := [C s', objR D (.deferred (some [])), objR l (.loop { ({ o with state := .busy } : Loop) with state := .ready, pending := none })]) (List.sublist_append_left _ rs3)
      have e3 : { ({ o with state := .busy } : Loop) with state := .ready, pending := none } = o := by rw [ho]
      rw [e3] at S5 S6
      have hend := run_endRound (P := P) none hl4
      have e4 : { ({ o with state := .busy } : Loop) with state := if (none : Option Code).isNone then .ready else .done, pending := none } = o := by rw [ho]; rfl
      rw [e4] at hend
      exact ⟨_, _, hend, rfl, s', hout, (loop_shut (ps := []) S6).turned1 0 rfl⟩
    | panic c => obtain ⟨_, _, h⟩ := hq2; exact h.elim
    | outgrown => exact hq2.elim
    | exit i => obtain ⟨_, _, h⟩ := hq2; exact h.elim
    | goto t => obtain ⟨_, _, h⟩ := hq2; exact h.elim
    | ret => obtain ⟨_, _, h⟩ := hq2; exact h.elim
  | panic c => obtain ⟨_, _, h⟩ := hq; exact h.elim
  | outgrown => exact hq.elim
  | exit i => obtain ⟨_, _, h⟩ := hq; exact h.elim
  | goto t => obtain ⟨_, _, h⟩ := hq; exact h.elim
  | ret => obtain ⟨_, _, h⟩ := hq; exact h.elim

/-- What is known of the calls that wait, with the loop's mark. -/
def markV (D : Nat) : Value := .agg #[.agg #[.int .i64 (D : Int)]]
theorem dfs_mark (D : Nat) (e : Env) : dfs ((1000000, markV D) :: e) = [⟨.collected D, #[]⟩] := rfl
/-- 'for x := range g { .. }' -/
theorem T_rangeFunc {σ α : Type} {g : Operand} {p : Tmp} {assign body : Code} {gf : FuncId} {gfn : Func} {lb : List Value}
    (hg : ev env g = some (.func (.func gf) #[] lb.toArray)) (hf : P.funcs[gf]? = some gfn) (hn : (gfn.name == "runtime.NumGoroutine") = false) (hb : gfn.body.isNone = false)
    (hd0 : dfs env = []) (hp : Nat.blt p N = true) (C : σ → Res) (s0 : σ) (S : St w0 noM (ps ++ [C s0]) w) (enc : α → Value) (out : σ → List α) (ok : σ → Prop) (Goal : σ → Prop)
    (hit : ∀ (l : Nat) (Y : σ → Res) (w1 : World), Like w w1 → (Y s0).holds w1 → (∀ i, (Y s0).dom i → i < w1.heap.size) → (∀ i, i < w.heap.size → (Y s0).dom i → (C s0).dom i) →
      (∀ s x W, ok s → (Y s).holds W → (∀ i, (Y s).dom i → i < W.heap.size) → YieldAt (WF none) 0 P l #[enc x] W fun e W' => e = .returned (.bool true) ∧ ∃ s', out s' = out s ++ [x] ∧ Turned W W' (Y s) (Y s')) →
      Calls P gf (#[.func (.yield l) #[] #[]] ++ lb.toArray) w1 fun e W' => (∃ v, e = .returned v) ∧ ∃ s', Goal s' ∧ Turned w1 W' (Y s0) (Y s'))
    (hround : ∀ (l D : Nat) (o o2 : Loop) (s : σ) (x : α) (W0 : World) (M : Nat → Prop) (W : World), ok s → St W0 M [C s, objR D (.deferred (some [])), objR l (.loop o)] W →
      TW P (some l) N assign (thenQ (fun e1 w1 => ∃ rs1, St W0 M ([C s, objR D (.deferred (some [])), objR l (.loop o)] ++ rs1) w1 ∧
        ∀ w2, St W0 M ([C s, objR D (.deferred (some [])), objR l (.loop o2)] ++ rs1) w2 → TW P (some l) N body (roundQ C out l D o2 W0 M (out s ++ [x])) e1 w2) noneQ) ((p, enc x) :: env) W)
    (hdone : ∀ D s' w', Goal s' → St w0 noM (ps ++ [C s', objR D (.deferred (some []))]) w' → Q .normal ((1000000, markV D) :: env) w') :
    T P N (.rangeFunc g #[p] assign body) Q env w := fun a ha => by
  refine (wpIn_wide (n := 0)).1 ?_
  refine wpIn_rangeFunc (F := Fence.wide) (n := 0) ?_
  intro fn _
  obtain ⟨D, hD⟩ : ∃ D, w.heap.size = D := ⟨_, rfl⟩
  obtain ⟨l, hl⟩ : ∃ l, w.heap.size + 1 = l := ⟨_, rfl⟩
  obtain ⟨o, ho⟩ : ∃ o : Loop, o = { state := .ready, pending := none, fn, tmps := a.tmps, params := #[p], assign, body, defers := D } := ⟨_, rfl⟩
  obtain ⟨w1, hw1⟩ : ∃ w1, (w.alloc (.deferred (some []))).alloc (.loop o) = w1 := ⟨_, rfl⟩
  have S1 : St w0 noM (ps ++ [C s0] ++ [objR D (.deferred (some []))]) (w.alloc (.deferred (some []))) := S.new (like_alloc w _) _ (by rw [← hD]; exact World.alloc_heap_new w _) fun i hi => by
    have hi' : i = D := hi
    subst hi'
    exact ⟨by omega, by simp; omega⟩
  have S2 : St w0 noM (ps ++ [C s0] ++ [objR D (.deferred (some []))] ++ [objR l (.loop o)]) w1 := by
    rw [← hw1]
    refine S1.new (like_alloc _ _) _ ?_ fun i hi => ?_
    · have h := World.alloc_heap_new (w.alloc (.deferred (some []))) (.loop o)
      rw [World.size_alloc, hl] at h
      exact h
    · have hi' : i = l := hi
      subst hi'
      exact ⟨by simp; omega, by simp; omega⟩
  have hlike : Like w w1 := by rw [← hw1]; exact (like_alloc w _).trans (like_alloc _ _)
  have S3 : St w0 noM (ps ++ [loopR (C s0) D l o]) w1 := loop_shut (by simpa using S2)
  have hk0 : (ps ++ [loopR (C s0) D l o])[ps.length]? = some (loopR (C s0) D l o) := by simp
  have hfit : Fits N env { tmps := a.tmps, defers := [] } := ⟨hd0.symm, ha.small, ha.size, ha.vals⟩
  have hlead : (resolve a.eval (rangeCall g l) 0).run P w1 = .ok { target := .fn (.func gf) lb.toArray, args := #[.func (.yield l) #[] #[]] } w1 := by
    simp only [resolve, ha.eval hg]
    simp [go_sem, Act.eval]
  have hcall := hit l (fun s => loopR (C s) D l o) w1 hlike (S3.get _ hk0) (S3.lt _ hk0) (fun i hi hd => by
    rcases hd with hd | hd | hd
    · exact hd
    · have : i = D := hd
      omega
    · have : i = l := hd
      omega) (fun s x W hok hW hdom => round_at (env := env) (C := C) (out := out) ho hfit hp s x (fun W0 M W o2 hS => hround l D o o2 s x W0 M W hok hS) hW hdom)
  refine ⟨l, [{ target := .collected D, args := #[] }], w1, { target := .fn (.func gf) lb.toArray, args := #[.func (.yield l) #[] #[]] }, w1, gf, #[.func (.yield l) #[] #[]] ++ lb.toArray, w1, ?_, hlead, fun _ _ => trivial, ?_, fun h => by simp [Fence.wide] at h, ?_⟩
  · rw [← hw1, ho, ← hl, ← hD]
    exact run_enterLoop_outer _ _ _ _ _
  · simp only [invoke, callFunc, Sem.run_bind, Sem.run_pure, Result.andThen_ok, run_program, hf, hn, hb, Bool.false_eq_true, if_false]
  · refine callsIn_wide.2 (hcall.mono ?_)
    rintro e W' ⟨⟨v, rfl⟩, s', hG, hT⟩
    have S4 := S3.turn _ hk0 hT
    have e4 : (ps ++ [loopR (C s0) D l o]).set ps.length (loopR (C s') D l o) = ps ++ [loopR (C s') D l o] := by simp
    rw [e4] at S4
    have S5 := loop_open S4
    have hk5 : (ps ++ [C s', objR D (.deferred (some [])), objR l (.loop o)])[ps.length + 2]? = some (objR l (.loop o)) := by simp
    have hl5 : W'.heap[l]? = some (.loop o) := S5.get _ hk5
    have hend := run_endLoop (P := P) hl5 (by rw [ho]; simp)
    have hpend : o.pending = none := by rw [ho]
    rw [hpend] at hend
    refine ⟨none, _, hend, ?_⟩
    have S6 := S5.putO _ (.loop { o with state := .exhausted }) hk5
    rw [hpend] at S6
    have S7 := S6.drop (rs' := ps ++ [C s', objR D (.deferred (some []))]) (by simp)
    refine ⟨(1000000, markV D) :: env, ⟨?_, ha.small, ha.size, fun i v hv => ?_⟩, hdone D s' _ hG S7⟩
    · rw [dfs_mark]
      show [_] ++ a.defers = _
      rw [ha.defers, hd0]
      rfl
    · simp only [look] at hv
      cases hb2 : Nat.beq 1000000 i with
      | true => rw [hb2] at hv; simp at hv
      | false => rw [hb2] at hv; exact ha.vals i v hv

/-- The end of a function that holds such a loop. -/
def bodyQM (P : Program) (fn : Func) (R : Ending → World → Prop) : Post
  | .ret, env, w => ∀ N a, Fits N env a → LeavesInM Fence.wide 0 P fn a.tmps R (dfs env) .returning w
  | _, _, _ => False
theorem enterM1 {f : FuncId} {fn : Func} {c : Code} (args : List Value) {R : Ending → World → Prop} (hf : P.funcs[f]? = some fn) (hb : fn.body = some c) (hn : fn.ntmps = N)
    (hN : Nat.ble args.length N = true) (he : envOf args 0 = env) (h : T P N c (bodyQM P fn R) env w) (hd0 : dfs env = [] := by rfl) (hsm : Nat.ble N 1000000 = true := by rfl) : Calls P f args.toArray w R := by
  refine callsIn_wide.1 (callsIn_of_wp_marks (F := Fence.wide) (n := 0) hf hb trivial ?_)
  have hsm' : N ≤ 1000000 := by simpa using hsm
  have hN' : args.length ≤ N := by simpa using hN
  have hfit : Fits N env { tmps := args.toArray ++ Array.replicate (fn.ntmps - args.toArray.size) undef, defers := [] } := by
    refine ⟨hd0.symm, hsm', by simp [hn]; omega, fun i v hv => ?_⟩
    have h1 : args[i]? = some v := by subst he; simpa using (look_envOf _ _ _ _ hv).2
    have h2 := (List.getElem?_eq_some_iff.1 h1).1
    rw [Array.getElem?_append_left (by simpa using h2)]
    simpa using h1
  refine wpIn_wide.2 (Code.wp_mono (fun e a w hq => ?_) (h _ hfit))
  cases e with
  | ret =>
    obtain ⟨e', h1, h2⟩ := hq
    have h3 := h2 N a h1
    rw [← h1.defers] at h3
    exact h3
  | normal => obtain ⟨_, _, h⟩ := hq; exact h.elim
  | panic c => obtain ⟨_, _, h⟩ := hq; exact h.elim
  | outgrown => exact hq.elim
  | exit i => obtain ⟨_, _, h⟩ := hq; exact h.elim
  | goto i => obtain ⟨_, _, h⟩ := hq; exact h.elim
theorem retM1 {fn : Func} {R : Ending → World → Prop} {t : Tmp} {v : Value} {D : Nat} (hr : fn.results = #[.tmp t]) (ht : look env t = some v) (hdf : dfs env = [⟨.collected D, #[]⟩]) (hD : w.heap[D]? = some (.deferred (some [])))
    (h : R (.returned v) (w.putObj D (.deferred none))) : bodyQM P fn R .ret env w := fun N a ha => by
  rw [hdf]
  refine ⟨by simp, .inl ⟨D, _, rfl, run_takeDeferred hD, ?_⟩⟩
  exact ⟨v, by rw [results_tmp hr, ha.getD ht], h⟩
end
end Go.Proofs.Ytmgimcdkeelnpaa.Zx


/-
  Many pieces handed to a callee at once. General; nothing here names a program.
-/
namespace Go.Proofs.Ytmgimcdkeelnpaa.Zx
open Go.RowKit Zk
set_option linter.unusedVariables false
set_option linter.unusedSimpArgs false
section
variable {w0 w w' : World} {M : Nat → Prop} {rs ps rs' : List Res}
end
end Go.Proofs.Ytmgimcdkeelnpaa.Zx


/-
  A piece that is two: taken apart, and put together. General; nothing here names a program.
-/
namespace Go.Proofs.Ytmgimcdkeelnpaa.Zx
open Go.RowKit Zk
set_option linter.unusedVariables false
set_option linter.unusedSimpArgs false
section
variable {w0 w : World} {M : Nat → Prop} {rs ps : List Res} {r s : Res}
end
end Go.Proofs.Ytmgimcdkeelnpaa.Zx


/-
  Panics and recover: a call that may end by a panic, a deferred closure with what it has of its own. General; nothing here names a program.
-/
namespace Go.Proofs.Ytmgimcdkeelnpaa.Zx
open Go.RowKit Zk
set_option linter.unusedVariables false
set_option linter.unusedSimpArgs false
section
variable {P : Program} {N : Nat} {Q : Post} {S : World → Prop} {env : Env} {w w0 : World} {K : Env → World → Prop} {dst : Option Tmp} {d : Tmp} {ty : TypeId} {pos : String} {after : Array Edge} {g : Option (Nat × Bool)}
end
/-! ### a deferred closure that recovers -/
end Go.Proofs.Ytmgimcdkeelnpaa.Zx


/-
  make of elements of many cells.
-/
namespace Go.Proofs.Ytmgimcdkeelnpaa.Zx
open Go.RowKit Zk
set_option linter.unusedVariables false
set_option linter.unusedSimpArgs false
section
variable {P : Program} {N : Nat} {Q : Exit → Env → World → Prop} {env : Env} {w w0 : World} {M : Nat → Prop} {rs : List Res} {K : Env → World → Prop} {d : Tmp} {ty : TypeId} {pos : String} {after : Array Edge} {g : Option (Nat × Bool)}
variable {dst : Option Tmp}
end
end Go.Proofs.Ytmgimcdkeelnpaa.Zx


/-
  Results, one of them in a variable; a callee's state taken over whole.
-/
namespace Go.Proofs.Ytmgimcdkeelnpaa.Zx
open Go.RowKit Zk
set_option linter.unusedVariables false
set_option linter.unusedSimpArgs false
section
variable {P : Program} {N : Nat} {Q : Exit → Env → World → Prop} {env : Env} {w w0 : World}
variable {S : World → Prop} {dst : Option Tmp} {ty : TypeId} {pos : String} {after : Array Edge} {gd : Option (Nat × Bool)}
end
end Go.Proofs.Ytmgimcdkeelnpaa.Zx


/-
  '!=' on truth values; bytes turned.
-/
namespace Go.Proofs.Ytmgimcdkeelnpaa.Zx
open Go.RowKit Zk
set_option linter.unusedVariables false
set_option linter.unusedSimpArgs false
section
variable {P : Program} {env : Env} {S : World → Prop} {dst : Option Tmp} {ty : TypeId} {pos : String} {after : Array Edge} {g : Option (Nat × Bool)}
theorem y_neBool {x y : Operand} {t u : TypeId} {a b : Bool} (ht : P.underlying t = some .bool) (hx : ev env x = some (.bool a)) (hy : ev env y = some (.bool b)) : Y P S env ⟨dst, .binOp .neq t x y u, ty, pos, after, g⟩ (.bool (!(a == b))) := fun N e w ha _ => by
  have h := run_neq_bool (P := P) (w := w) t a b ht
  have hg : (eqGuard .neq t x y (.bool a) (.bool b)).run P w = .ok () w := by simp [eqGuard]
  simp only [execOp, ha.eval hx, ha.eval hy, Sem.run_bind, hg, h, Result.andThen_ok, Sem.run_pure]
end
end Go.Proofs.Ytmgimcdkeelnpaa.Zx


/-
  Find.
-/
namespace Go.Proofs.Ytmgimcdkeelnpaa.Mrg
open Go.RowKit Zk Zx
set_option linter.unusedVariables false
set_option linter.unusedSimpArgs false

/-- No entry. -/
def zE : EV := ⟨⟨#[]⟩, 0, List.replicate 32 0, by decide⟩
/-- The first entry of a name. -/
def fO (l : List EV) (s : ByteArray) : Option EV := l.find? fun e => decide (e.nm = s)
def fE (l : List EV) (s : ByteArray) : EV := (fO l s).getD zE
def fB (l : List EV) (s : ByteArray) : Bool := (fO l s).isSome
theorem fO_at {l : List EV} {s : ByteArray} {k : Nat} {x : EV} (hx : l[k]? = some x) (hs : x.nm = s) (h : ∀ j y, j < k → l[j]? = some y → y.nm ≠ s) : fO l s = some x := by
  unfold fO
  rw [List.find?_eq_some_iff_getElem]
  obtain ⟨h1, h2⟩ := List.getElem?_eq_some_iff.1 hx
  refine ⟨by simpa using hs, k, h1, h2, fun j hj => ?_⟩
  have := h j l[j] hj (List.getElem?_eq_getElem _)
  simpa using this
theorem fO_no {l : List EV} {s : ByteArray} (h : ∀ j y, j < l.length → l[j]? = some y → y.nm ≠ s) : fO l s = none := by
  unfold fO
  rw [List.find?_eq_none]
  intro y hy
  obtain ⟨j, hj, rfl⟩ := List.getElem_of_mem hy
  have := h j _ hj (List.getElem?_eq_getElem hj)
  simpa using this
theorem fE_no {l : List EV} {s : ByteArray} (h : fO l s = none) : fE l s = zE ∧ fB l s = false := by unfold fE fB; rw [h]; exact ⟨rfl, rfl⟩
theorem fE_some {l : List EV} {s : ByteArray} {x : EV} (h : fO l s = some x) : fE l s = x ∧ fB l s = true := by unfold fE fB; rw [h]; exact ⟨rfl, rfl⟩
/-- Where the first entry of a name stands. -/
def At (l : List EV) (s : ByteArray) (v : Int) : Prop := (v = -1 ∧ fO l s = none) ∨ ∃ k : Nat, ∃ x, v = (k : Int) ∧ l[k]? = some x ∧ fO l s = some x
theorem built39 : Try.prog.built 39 [] = some (enf zE).toArray := by kernel_rfl
theorem nm_step {l : List EV} {s : ByteArray} {k : Nat} {x : EV} (hx : l[k]? = some x) (hs : x.nm ≠ s) (h : ∀ j y, j < k → l[j]? = some y → y.nm ≠ s) : ∀ j y, j < k + 1 → l[j]? = some y → y.nm ≠ s := fun j y hj hy => by
  rcases Nat.lt_or_ge j k with q | q
  · exact h j y q hy
  · have e : j = k := by omega
    subst e
    rw [hx] at hy
    cases hy
    exact hs


set_option maxRecDepth 100000 in
theorem same1 (x : EV) (b : Nat) (s : ByteArray) (w0 : World) (hb : Blk w0 b 9 #[.string s]) :
    Calls Try.prog 31 #[.agg (enf x).toArray, .pointer (some ⟨b, 0, none⟩)] w0 fun e w' => ∃ u, e = .returned u ∧ Like w0 w' ∧ u = .bool (decide (x.nm = s)) := by
  refine enter1 (env := [(0, .agg (enf x).toArray), (1, .pointer (some ⟨b, 0, none⟩))]) [.agg (enf x).toArray, .pointer (some ⟨b, 0, none⟩)] Try.func31 rfl Try.ntmps31 rfl rfl ?_
  have S0 := St.start w0 noM
  refine T_seq fun K1 hK1 => ?_
  refine T_region ?_
  refine L_o (o_box rfl S0 rfl fun b1 w1 hb1 S1 => ?_)
  refine L_y (y_assign rfl) rfl ?_
  refine L_nil ?_
  refine hK1 _ _ ?_
  refine T_seq fun K2 hK2 => ?_
  refine T_region ?_
  refine L_y (y_fieldA 0 Try.underlying39 rfl sz9 rfl rfl rfl) rfl ?_
  refine L_y (y_ldc Try.underlying9 rfl rfl (((S1.blk 0 rfl).cell _).trans (by rfl))) rfl ?_
  refine L_y (y_ldc Try.underlying9 rfl rfl (((S1.rdB hb).cell _).trans (by rfl))) rfl ?_
  refine L_y (y_seql rfl rfl) rfl ?_
  refine L_y (y_assign rfl) rfl ?_
  refine L_nil ?_
  refine hK2 _ _ ?_
  refine T_ret ?_
  refine ur ?_
  refine ret1 rfl rfl ?_
  exact ⟨_, rfl, S1.like0, rfl⟩


set_option maxRecDepth 100000 in
theorem idxf (A : Option Addr) (n c : Nat) (l : List EV) (b : Nat) (s : ByteArray) (w0 : World) (hl : Rs w0 34 A n c (l.flatMap enf)) (hb : Blk w0 b 9 #[.string s]) :
    Calls Try.prog 30 #[.slice A n c, .func (.func 31) #[] #[.pointer (some ⟨b, 0, none⟩)]] w0 fun e w' => ∃ u, e = .returned u ∧ Like w0 w' ∧ ∃ v : Int, u = .int .i64 v ∧ At l s v := by
  refine enter1 (env := [(0, .slice A n c), (1, .func (.func 31) #[] #[.pointer (some ⟨b, 0, none⟩)])]) [.slice A n c, .func (.func 31) #[] #[.pointer (some ⟨b, 0, none⟩)]] Try.func30 rfl Try.ntmps30 rfl rfl ?_
  have hn := ens_n hl; have hcap := hl.cap; have hmax := hl.max; have S0 := St.start w0 noM
  refine T_seq fun K1 hK1 => ?_
  refine T_region ?_
  refine L_y (y_assign rfl) rfl ?_
  refine L_nil ?_
  refine hK1 _ _ ?_
  refine T_seq fun K2 hK2 => ?_
  refine T_seq fun K3 hK3 => ?_
  refine T_region ?_
  refine L_y (y_move rfl) rfl ?_
  refine L_y (y_len Try.underlying22 rfl) rfl ?_
  refine L_y (y_move rfl) rfl ?_
  refine L_nil ?_
  refine hK3 _ _ ?_
  refine T_block ?_
  refine T_loop1 [(0, _), (1, _), (7, _)] (fun (k : Nat) => [(8, .int .i64 (k : Int))]) (fun (k : Nat) => n - k) (fun (k : Nat) (w : World) => (k ≤ n ∧ ∀ j y, j < k → l[j]? = some y → y.nm ≠ s) ∧ St w0 noM [] w) 0 (Sub.cons rfl (by first | rfl | exact congrArg (Value.int _) (by omega)) (Sub.nil _)) (Sub.cons rfl rfl (Sub.cons rfl rfl (Sub.cons rfl rfl (Sub.nil _)))) ?_ ?_
  ·
    exact ⟨⟨Nat.zero_le _, fun j _ hj => absurd hj (by omega)⟩, S0⟩
  ·
    intro k w1 hrel
    obtain ⟨⟨hk, hno⟩, S1⟩ := hrel
    refine T_seq fun K4 hK4 => ?_
    refine T_region ?_
    refine L_y (y_lss rfl rfl) rfl ?_
    refine L_nil ?_
    refine hK4 _ _ ?_
    refine T_seq fun K5 hK5 => ?_
    refine T_cond rfl (fun h9 => ?_) (fun h9 => ?_)
    ·
      obtain ⟨x, hx⟩ : ∃ x, l[k]? = some x := ⟨_, List.getElem?_eq_getElem (by omega)⟩
      refine T_skip ?_
      refine hK5 _ _ ?_
      refine T_seq fun K6 hK6 => ?_
      refine T_block ?_
      refine T_seq fun K7 hK7 => ?_
      refine T_region ?_
      refine L_y (y_move rfl) rfl ?_
      refine L_y (y_assign rfl) rfl ?_
      refine L_nil ?_
      refine hK7 _ _ ?_
      refine T_seq fun K8 hK8 => ?_
      refine T_region ?_
      refine L_y (y_move rfl) rfl ?_
      refine L_y (y_move rfl) rfl ?_
      refine L_y (y_move rfl) rfl ?_
      refine L_y (y_idx Try.underlying22 sz39 rfl rfl (S1.rd hl) (Nt.mk (by omega) : Nt _ (k)) (by omega)) rfl ?_
      refine L_y (y_ldp (f := enf) enf_len Try.underlying39 rfl sz39 rfl (S1.rd hl) (by omega) hx) rfl ?_
      refine L_o (o_callv rfl Try.func31 rfl rfl (same1 x b s w1 (S1.rdB hb)) rfl rfl (fun d' hd => by cases hd <;> rfl) ?_)
      rintro e2 w2 ⟨v2, rfl, l2, rfl⟩
      refine ⟨_, rfl, ?_⟩
      have S2 := S1.like l2
      refine L_nil ?_
      refine hK8 _ _ ?_
      refine T_condB rfl (fun h16 => ?_) (fun h16 => ?_)
      ·
        refine T_seq fun K9 hK9 => ?_
        refine T_region ?_
        refine L_y (y_move rfl) rfl ?_
        refine L_y (y_assign rfl) rfl ?_
        refine L_nil ?_
        refine hK9 _ _ ?_
        refine T_ret ?_
        refine ur ?_
        refine ret1 rfl rfl ?_
        first | exact ⟨_, rfl, S2.like0, _, rfl, .inr ⟨k, x, rfl, hx, fO_at hx (by simpa using h16) hno⟩⟩ | exact ⟨_, rfl, S2.like0, _, rfl, .inl ⟨rfl, fO_no fun j y hj => hno j y (by omega)⟩⟩
      ·
        refine T_skip ?_
        refine hK6 _ _ ?_
        refine T_region ?_
        refine L_y (y_add rfl rfl (i64w (by omega))) rfl ?_
        refine L_y (y_move rfl) rfl ?_
        refine L_nil ?_
        refine ⟨k + 1, by omega, ⟨⟨by omega, nm_step hx (by simpa using h16) hno⟩, S2⟩, ?_⟩
        exact (Sub.cons rfl (by first | rfl | exact congrArg (Value.int _) (by omega)) (Sub.cons rfl rfl (Sub.cons rfl rfl (Sub.cons rfl rfl (Sub.nil _)))))
    ·
      refine T_exit ?_
      refine hK2 _ _ ?_
      refine T_seq fun K10 hK10 => ?_
      refine T_region ?_
      refine L_y (y_assign rfl) rfl ?_
      refine L_nil ?_
      refine hK10 _ _ ?_
      refine T_ret ?_
      refine ur ?_
      refine ret1 rfl rfl ?_
      first | exact ⟨_, rfl, S1.like0, _, rfl, .inr ⟨k, x, rfl, hx, fO_at hx (by simpa using h16) hno⟩⟩ | exact ⟨_, rfl, S1.like0, _, rfl, .inl ⟨rfl, fO_no fun j y hj => hno j y (by omega)⟩⟩


set_option maxRecDepth 100000 in
theorem find (A : Option Addr) (n c : Nat) (l : List EV) (s : ByteArray) (w0 : World) (hl : Rs w0 34 A n c (l.flatMap enf)) :
    Calls Try.prog 17 #[.slice A n c, .string s] w0 fun e w' => ∃ u, e = .returned u ∧ Like w0 w' ∧ u = .tuple #[.agg (enf (fE l s)).toArray, .bool (fB l s)] := by
  refine enter1 (env := [(0, .slice A n c), (1, .string s)]) [.slice A n c, .string s] Try.func17 rfl Try.ntmps17 rfl rfl ?_
  have hn := ens_n hl; have hcap := hl.cap; have hmax := hl.max; have S0 := St.start w0 noM
  refine T_seq fun K1 hK1 => ?_
  refine T_region ?_
  refine L_o (o_box1 rfl rfl S0 rfl fun b1 w1 hb1 S1 => ?_)
  refine L_o (o_alloc zz39 S1 rfl fun b2 w2 hb2 S2 => ?_)
  refine L_y (y_assign rfl) rfl ?_
  refine L_nil ?_
  refine hK1 _ _ ?_
  refine T_seq fun K2 hK2 => ?_
  refine T_region ?_
  refine L_y (y_move rfl) rfl ?_
  refine L_y (y_makeFunc rfl rfl) rfl ?_
  refine L_o (o_call Try.func30 rfl rfl (idxf A n c l b1 s w2 (S2.rd hl) (S2.blk 0 rfl)) rfl rfl ?_)
  rintro e3 w3 ⟨v3, rfl, l3, v9, rfl, hat⟩
  refine ⟨_, rfl, ?_⟩
  have S3 := S2.like l3
  refine L_y (y_assign rfl) rfl ?_
  refine L_nil ?_
  refine hK2 _ _ ?_
  refine T_seq fun K3 hK3 => ?_
  refine T_seq fun K4 hK4 => ?_
  refine T_region ?_
  refine L_y (y_move rfl) rfl ?_
  refine L_y (y_lss rfl rfl) rfl ?_
  refine L_nil ?_
  refine hK4 _ _ ?_
  refine T_cond rfl (fun h11 => ?_) (fun h11 => ?_)
  ·
    have hno : fO l s = none := by rcases hat with ⟨_, h⟩ | ⟨k, x, rfl, _⟩; exact h; omega
    refine T_seq fun K5 hK5 => ?_
    refine T_region ?_
    refine L_y (y_build rfl built39) rfl ?_
    refine L_o (o_stW S3 1 rfl rfl rfl (by rw [enf_sz]; exact sz39) (by first | (rw [enf_sz]; done) | (rw [enf_sz]; rfl) | (rw [enf_sz, enf_sz]; done)) (enf_one _) fun w4 S4 => ?_)
    refine L_y (y_assign rfl) rfl ?_
    refine L_nil ?_
    refine hK5 _ _ ?_
    refine T_ret ?_
    refine ur ?_
    refine retct rfl rfl rfl (S4.blk 1 rfl) Try.underlying39 rfl (by first | exact sz39 | (rw [enf_sz]; exact sz39)) ?_
    first | (exact ⟨_, rfl, S4.like0, by rw [(fE_no hno).1, (fE_no hno).2]⟩) | (exact ⟨_, rfl, S4.like0, by rw [(fE_some hf).1, (fE_some hf).2]⟩)
  ·
    obtain ⟨k, x, rfl, hx, hf⟩ : ∃ k : Nat, ∃ x, v9 = (k : Int) ∧ l[k]? = some x ∧ fO l s = some x := by rcases hat with ⟨h, _⟩ | h; omega; exact h
    have hkl := (List.getElem?_eq_some_iff.1 hx).1
    refine T_skip ?_
    refine hK3 _ _ ?_
    refine T_seq fun K6 hK6 => ?_
    refine T_region ?_
    refine L_y (y_move rfl) rfl ?_
    refine L_y (y_move rfl) rfl ?_
    refine L_y (y_idx Try.underlying22 sz39 rfl rfl (S3.rd hl) (Nt.mk (by omega) : Nt _ (k)) (by omega)) rfl ?_
    refine L_y (y_ldp (f := enf) enf_len Try.underlying39 rfl sz39 rfl (S3.rd hl) (by omega) hx) rfl ?_
    refine L_o (o_stW S3 1 rfl rfl rfl (by rw [enf_sz]; exact sz39) (by first | (rw [enf_sz]; done) | (rw [enf_sz]; rfl) | (rw [enf_sz, enf_sz]; done)) (enf_one _) fun w5 S5 => ?_)
    refine L_y (y_assign rfl) rfl ?_
    refine L_nil ?_
    refine hK6 _ _ ?_
    refine T_ret ?_
    refine ur ?_
    refine retct rfl rfl rfl (S5.blk 1 rfl) Try.underlying39 rfl (by first | exact sz39 | (rw [enf_sz]; exact sz39)) ?_
    first | (exact ⟨_, rfl, S5.like0, by rw [(fE_no hno).1, (fE_no hno).2]⟩) | (exact ⟨_, rfl, S5.like0, by rw [(fE_some hf).1, (fE_some hf).2]⟩)


set_option maxRecDepth 100000 in
theorem rfind (A : Option Addr) (n c : Nat) (l : List EV) (s : ByteArray) (w0 : World) (hl : Rs w0 34 A n c (l.flatMap enf)) :
    Calls Try.prog 18 #[.slice A n c, .string s] w0 fun e w' => ∃ u, e = .returned u ∧ Like w0 w' ∧ u = .tuple #[.agg (enf (fE l s)).toArray, .bool (fB l s)] := by
  refine enter1 (env := [(0, .slice A n c), (1, .string s)]) [.slice A n c, .string s] Try.func18 rfl Try.ntmps18 rfl rfl ?_
  have hn := ens_n hl; have hcap := hl.cap; have hmax := hl.max; have S0 := St.start w0 noM
  refine T_seq fun K1 hK1 => ?_
  refine T_region ?_
  refine L_o (o_alloc zz39 S0 rfl fun b1 w1 hb1 S1 => ?_)
  refine L_y (y_assign rfl) rfl ?_
  refine L_nil ?_
  refine hK1 _ _ ?_
  refine T_seq fun K2 hK2 => ?_
  refine T_seq fun K3 hK3 => ?_
  refine T_region ?_
  refine L_y (y_assign rfl) rfl ?_
  refine L_nil ?_
  refine hK3 _ _ ?_
  refine T_block ?_
  refine T_loop1 [(0, _), (1, _), (4, _)] (fun (k : Nat) => [(6, .int .i64 (k : Int))]) (fun (k : Nat) => n - k) (fun (k : Nat) (w : World) => (k ≤ n ∧ ∀ j y, j < k → l[j]? = some y → y.nm ≠ s) ∧ St w0 noM [blk b1 39 (enf zE).toArray] w) 0 (Sub.cons rfl (by first | rfl | exact congrArg (Value.int _) (by omega)) (Sub.nil _)) (Sub.cons rfl rfl (Sub.cons rfl rfl (Sub.cons rfl rfl (Sub.nil _)))) ?_ ?_
  ·
    exact ⟨⟨Nat.zero_le _, fun j _ hj => absurd hj (by omega)⟩, S1⟩
  ·
    intro k w2 hrel
    obtain ⟨⟨hk, hno⟩, S2⟩ := hrel
    refine T_seq fun K4 hK4 => ?_
    refine T_seq fun K5 hK5 => ?_
    refine T_region ?_
    refine L_y (y_move rfl) rfl ?_
    refine L_y (y_move rfl) rfl ?_
    refine L_y (y_len Try.underlying22 rfl) rfl ?_
    refine L_y (y_lss rfl rfl) rfl ?_
    refine L_nil ?_
    refine hK5 _ _ ?_
    refine T_cond rfl (fun h10 => ?_) (fun h10 => ?_)
    ·
      obtain ⟨x, hx⟩ : ∃ x, l[k]? = some x := ⟨_, List.getElem?_eq_getElem (by omega)⟩
      refine T_skip ?_
      refine hK4 _ _ ?_
      refine T_seq fun K6 hK6 => ?_
      refine T_block ?_
      refine T_seq fun K7 hK7 => ?_
      refine T_region ?_
      refine L_y (y_move rfl) rfl ?_
      refine L_y (y_move rfl) rfl ?_
      refine L_y (y_idx Try.underlying22 sz39 rfl rfl (S2.rd hl) (Nt.mk (by omega) : Nt _ (k)) (by omega)) rfl ?_
      refine L_y (y_fieldR 0 Try.underlying39 rfl sz9 rfl rfl (S2.rd hl) (by omega) rfl) rfl ?_
      refine L_y (y_ldf Try.underlying9 rfl rfl (S2.rd hl) (by omega) (en_nm hx)) rfl ?_
      refine L_y (y_move rfl) rfl ?_
      refine L_y (y_seql rfl rfl) rfl ?_
      refine L_nil ?_
      refine hK7 _ _ ?_
      refine T_condB rfl (fun h19 => ?_) (fun h19 => ?_)
      ·
        have hf : fO l s = some x := fO_at hx (by simpa using h19) hno
        refine T_seq fun K8 hK8 => ?_
        refine T_region ?_
        refine L_y (y_move rfl) rfl ?_
        refine L_y (y_move rfl) rfl ?_
        refine L_y (y_idx Try.underlying22 sz39 rfl rfl (S2.rd hl) (Nt.mk (by omega) : Nt _ (k)) (by omega)) rfl ?_
        refine L_y (y_ldp (f := enf) enf_len Try.underlying39 rfl sz39 rfl (S2.rd hl) (by omega) hx) rfl ?_
        refine L_o (o_stW S2 0 rfl rfl rfl (by rw [enf_sz]; exact sz39) (by first | (rw [enf_sz]; done) | (rw [enf_sz]; rfl) | (rw [enf_sz, enf_sz]; done)) (enf_one _) fun w3 S3 => ?_)
        refine L_y (y_assign rfl) rfl ?_
        refine L_nil ?_
        refine hK8 _ _ ?_
        refine T_ret ?_
        refine ur ?_
        refine retct rfl rfl rfl (S3.blk 0 rfl) Try.underlying39 rfl (by first | exact sz39 | (rw [enf_sz]; exact sz39)) ?_
        first | (exact ⟨_, rfl, S3.like0, by rw [(fE_no hno9).1, (fE_no hno9).2]⟩) | (exact ⟨_, rfl, S3.like0, by rw [(fE_some hf).1, (fE_some hf).2]⟩)
      ·
        refine T_skip ?_
        refine hK6 _ _ ?_
        refine T_region ?_
        refine L_y (y_move rfl) rfl ?_
        refine L_y (y_add rfl rfl (i64w (by omega))) rfl ?_
        refine L_y (y_assign rfl) rfl ?_
        refine L_nil ?_
        refine ⟨k + 1, by omega, ⟨⟨by omega, nm_step hx (by simpa using h19) hno⟩, S2⟩, ?_⟩
        exact (Sub.cons rfl (by first | rfl | exact congrArg (Value.int _) (by omega)) (Sub.cons rfl rfl (Sub.cons rfl rfl (Sub.cons rfl rfl (Sub.nil _)))))
    ·
      have hno9 : fO l s = none := fO_no fun j y hj => hno j y (by omega)
      refine T_exit ?_
      refine hK2 _ _ ?_
      refine T_seq fun K9 hK9 => ?_
      refine T_region ?_
      refine L_y (y_build rfl built39) rfl ?_
      refine L_o (o_stW S2 0 rfl rfl rfl (by rw [enf_sz]; exact sz39) (by first | (rw [enf_sz]; done) | (rw [enf_sz]; rfl) | (rw [enf_sz, enf_sz]; done)) (enf_one _) fun w4 S4 => ?_)
      refine L_y (y_assign rfl) rfl ?_
      refine L_nil ?_
      refine hK9 _ _ ?_
      refine T_ret ?_
      refine ur ?_
      refine retct rfl rfl rfl (S4.blk 0 rfl) Try.underlying39 rfl (by first | exact sz39 | (rw [enf_sz]; exact sz39)) ?_
      first | (exact ⟨_, rfl, S4.like0, by rw [(fE_no hno9).1, (fE_no hno9).2]⟩) | (exact ⟨_, rfl, S4.like0, by rw [(fE_some hf).1, (fE_some hf).2]⟩)
end Go.Proofs.Ytmgimcdkeelnpaa.Mrg


/-
  The document: Names.
-/
namespace Go.Proofs.Ytmgimcdkeelnpaa.Mrg
open Go.RowKit Zk Zx
set_option linter.unusedVariables false
set_option linter.unusedSimpArgs false

/-- Texts in a row. -/
def sL (l : List ByteArray) : List Value := l.map Value.string
theorem sL_one (l : List ByteArray) : ∀ u ∈ sL l, u.oneCell' = true := fun u hu => by
  unfold sL at hu
  obtain ⟨x, _, rfl⟩ := List.mem_map.1 hu
  rfl
theorem sL_get {l : List ByteArray} {k : Nat} {x : ByteArray} (h : l[k]? = some x) : (sL l)[k]? = some (.string x) := by
  unfold sL
  rw [List.getElem?_map, h]
  rfl
/-- Where a name goes among rising ones. -/
def cutN (xs : List ByteArray) (x : ByteArray) : Nat := (xs.takeWhile fun y => sLt y x).length
def insN (xs : List ByteArray) (x : ByteArray) : List ByteArray := if xs[cutN xs x]? = some x then xs else xs.take (cutN xs x) ++ x :: xs.drop (cutN xs x)
/-- The names of entries, rising, each once. -/
def nms (l : List EV) : List ByteArray := l.foldl (fun o e => insN o e.nm) []
theorem nms_step {l : List EV} {k : Nat} {x : EV} (hx : l[k]? = some x) : nms (l.take (k + 1)) = insN (nms (l.take k)) x.nm := by
  unfold nms
  rw [take_sn2 hx, List.foldl_append]
  rfl
theorem cutN_at : ∀ (xs : List ByteArray) (x : ByteArray) (j : Nat), j ≤ xs.length → (∀ i y, i < j → xs[i]? = some y → sLt y x = true) → (∀ y, xs[j]? = some y → sLt y x = false) → cutN xs x = j
  | [], x, j, hj, _, _ => by
    have : j = 0 := by simpa using hj
    subst this
    rfl
  | y :: xs, x, 0, _, _, h2 => by
    have := h2 y rfl
    unfold cutN
    rw [List.takeWhile_cons, this]
    rfl
  | y :: xs, x, j + 1, hj, h1, h2 => by
    have e := h1 0 y (by omega) rfl
    have ih := cutN_at xs x j (by simpa using hj) (fun i z hi hz => h1 (i + 1) z (by omega) (by simpa using hz)) (fun z hz => h2 z (by simpa using hz))
    unfold cutN at ih ⊢
    rw [List.takeWhile_cons, e]
    simp only [if_true, List.length_cons, ih]
theorem insN_is {xs : List ByteArray} {x : ByteArray} {j : Nat} (h : cutN xs x = j) (hx : xs[j]? = some x) : insN xs x = xs := by unfold insN; rw [h, if_pos hx]
theorem insN_at {xs : List ByteArray} {x : ByteArray} {j : Nat} (h : cutN xs x = j) (hx : xs[j]? ≠ some x) : insN xs x = xs.take j ++ x :: xs.drop j := by unfold insN; rw [h, if_neg hx]
theorem lt_step {xs : List ByteArray} {x y : ByteArray} {j : Nat} (hy : xs[j]? = some y) (h : sLt y x = true) (h1 : ∀ i y, i < j → xs[i]? = some y → sLt y x = true) : ∀ i y, i < j + 1 → xs[i]? = some y → sLt y x = true := fun i z hi hz => by
  rcases Nat.lt_or_ge i j with q | q
  · exact h1 i z q hz
  · have e : i = j := by omega
    subst e
    rw [hy] at hz
    cases hz
    exact h
theorem sL_ins (xs : List ByteArray) (j : Nat) (x : ByteArray) : [] ++ ((sL xs).drop (0 * 1)).take ((j - 0) * 1) ++ [Value.string x] ++ ((sL xs).drop (j * 1)).take ((xs.length - j) * 1) = sL (xs.take j ++ x :: xs.drop j) := by
  unfold sL
  rw [Nat.mul_one, Nat.mul_one, Nat.mul_one, Nat.mul_one, List.nil_append, List.drop_zero, Nat.sub_zero, ← List.map_drop, ← List.map_take, ← List.map_take, show (xs.drop j).take (xs.length - j) = xs.drop j from List.take_of_length_le (by rw [List.length_drop]; exact Nat.le_refl _)]
  simp


set_option maxRecDepth 100000 in
theorem names (A : Option Addr) (n c : Nat) (l : List EV) (B : Option Addr) (m d : Nat) (l2 : List EV) (w0 : World) (ha : Rs w0 34 A n c (l.flatMap enf)) (hb : Rs w0 34 B m d (l2.flatMap enf)) (hn5 : n ≤ 1000) (hm5 : m ≤ 1000) :
    Calls Try.prog 20 #[.slice A n c, .slice B m d] w0 fun e w' => ∃ u, e = .returned u ∧ Like w0 w' ∧ ∃ A' c', u = .slice A' (nms (l ++ l2)).length c' ∧ w'.ownsRow w0.heap.size 9 1 (.slice A' (nms (l ++ l2)).length c') (nms (l ++ l2)).length (sL (nms (l ++ l2))) := by
  refine enter1 (env := [(0, .slice A n c), (1, .slice B m d)]) [.slice A n c, .slice B m d] Try.func20 rfl Try.ntmps20 rfl rfl ?_
  have hn := ens_n ha; have hm := ens_n hb; have hcap := ha.cap; have hcap2 := hb.cap; have S0 := St.start w0 noM
  refine T_seq fun K1 hK1 => ?_
  refine T_region ?_
  refine L_y (y_assign rfl) rfl ?_
  refine L_nil ?_
  refine hK1 _ _ ?_
  refine T_seq fun K2 hK2 => ?_
  refine T_region ?_
  have S1 := S0.nilrow 39 34
  refine L_y (y_assign rfl) rfl ?_
  refine L_nil ?_
  refine hK2 _ _ ?_
  refine T_seq fun K3 hK3 => ?_
  refine T_region ?_
  refine L_y (y_move rfl) rfl ?_
  refine L_y (y_move rfl) rfl ?_
  refine L_o (o_app te22 S1 0 rfl rfl rfl (S1.rd ha) (ens_one _) rfl (by omega) (by omega) fun A2 c2 w2 S2 => ?_)
  refine L_y (y_assign rfl) rfl ?_
  refine L_nil ?_
  refine hK3 _ _ ?_
  refine T_seq fun K4 hK4 => ?_
  refine T_region ?_
  refine L_y (y_move rfl) rfl ?_
  refine L_y (y_move rfl) rfl ?_
  refine L_o (o_app te22 S2 0 rfl rfl rfl (S2.rd hb) (ens_one _) rfl (by omega) (by omega) fun A3 c3 w3 S3 => ?_)
  refine L_y (y_assign rfl) rfl ?_
  refine L_nil ?_
  refine hK4 _ _ ?_
  refine T_seq fun K5 hK5 => ?_
  refine T_region ?_
  refine L_y (y_assign rfl) rfl ?_
  refine L_nil ?_
  refine hK5 _ _ ?_
  refine T_seq fun K6 hK6 => ?_
  refine T_seq fun K7 hK7 => ?_
  obtain ⟨q, hq⟩ : ∃ q, l ++ l2 = q := ⟨_, rfl⟩
  have hql : q.length = n + m := by rw [← hq, List.length_append]; omega
  have S4 := S3.rowc 0 rfl (n' := 0 + n + m) (xs' := q.flatMap enf) rfl (by rw [← hq, List.flatMap_append, List.nil_append])
  have S5 := S4.nilrow 9 1
  refine T_region ?_
  refine L_y (y_assign rfl) rfl ?_
  refine L_nil ?_
  refine hK7 _ _ ?_
  refine T_block ?_
  refine T_loop4 [(5, _)] (fun (k : Nat) (A1 : Option Addr) (c1 : Nat) (xs : List ByteArray) => [(6, .slice A1 xs.length c1), (7, .int .i64 (k : Int))]) (fun (k : Nat) (A1 : Option Addr) (c1 : Nat) (xs : List ByteArray) => n + m - k) (fun (k : Nat) (A1 : Option Addr) (c1 : Nat) (xs : List ByteArray) (w : World) => (k ≤ n + m ∧ xs = nms (q.take k) ∧ xs.length ≤ k) ∧ St w0 noM [row 39 34 A3 (0 + n + m) c3 (q.flatMap enf), row 9 1 A1 xs.length c1 (sL xs)] w) 0 none 0 [] (Sub.cons rfl (by first | rfl | exact congrArg (Value.int _) (by omega)) (Sub.cons rfl (by first | rfl | exact congrArg (Value.int _) (by omega)) (Sub.nil _))) (Sub.cons rfl rfl (Sub.nil _)) ?_ ?_
  ·
    exact ⟨⟨Nat.zero_le _, rfl, Nat.le_refl _⟩, S5⟩
  ·
    intro k A1 c1 xs w6 hrel
    obtain ⟨⟨hk, hxs, hxl⟩, S6⟩ := hrel
    have hcp := (S6.row 1 rfl).cap
    refine T_seq fun K8 hK8 => ?_
    refine T_seq fun K9 hK9 => ?_
    refine T_region ?_
    refine L_y (y_move rfl) rfl ?_
    refine L_y (y_move rfl) rfl ?_
    refine L_y (y_len Try.underlying22 rfl) rfl ?_
    refine L_y (y_lss rfl rfl) rfl ?_
    refine L_nil ?_
    refine hK9 _ _ ?_
    refine T_cond rfl (fun h19 => ?_) (fun h19 => ?_)
    ·
      obtain ⟨x, hx⟩ : ∃ x, q[k]? = some x := ⟨_, List.getElem?_eq_getElem (by omega)⟩
      refine T_skip ?_
      refine hK8 _ _ ?_
      refine T_seq fun K10 hK10 => ?_
      refine T_block ?_
      refine T_seq fun K11 hK11 => ?_
      refine T_region ?_
      refine L_y (y_assign rfl) rfl ?_
      refine L_nil ?_
      refine hK11 _ _ ?_
      refine T_seq fun K12 hK12 => ?_
      refine T_block ?_
      refine T_loop1 [(5, _), (6, _), (7, _)] (fun (j : Nat) => [(8, .int .i64 (j : Int))]) (fun (j : Nat) => xs.length - j) (fun (j : Nat) (w : World) => (j ≤ xs.length ∧ ∀ i y, i < j → xs[i]? = some y → sLt y x.nm = true) ∧ St w0 noM [row 39 34 A3 (0 + n + m) c3 (q.flatMap enf), row 9 1 A1 xs.length c1 (sL xs)] w) 0 (Sub.cons rfl (by first | rfl | exact congrArg (Value.int _) (by omega)) (Sub.nil _)) (Sub.cons rfl rfl (Sub.cons rfl rfl (Sub.cons rfl rfl (Sub.nil _)))) ?_ ?_
      ·
        exact ⟨⟨Nat.zero_le _, fun i _ hi => absurd hi (by omega)⟩, S6⟩
      ·
        intro j w7 hrel
        obtain ⟨⟨hj, hlo⟩, S7⟩ := hrel
        refine T_seq fun K13 hK13 => ?_
        refine T_seq fun K14 hK14 => ?_
        refine T_drawnL [(0, true), (1, true), (2, true), (3, true), (4, true), (5, true), (6, true), (7, true), (8, true), (9, true), (10, true), (11, true), (12, true), (13, true), (14, true), (15, true)] hmix (by kernel_rfl) fun w8 l8 => ?_
        have S8 := S7.like l8
        refine DL_y rfl (y_move rfl) rfl ?_
        refine DL_y rfl (y_move rfl) rfl ?_
        refine DL_y rfl (y_len Try.underlying44 rfl) rfl ?_
        refine DL_y rfl (y_lss rfl rfl) rfl ?_
        refine DL_y rfl (y_move rfl) rfl ?_
        refine DL_split 26 rfl (fun h26 => ?_) (fun h26 => ?_)
        ·
          obtain ⟨y, hy⟩ : ∃ y, xs[j]? = some y := ⟨_, List.getElem?_eq_getElem (by omega)⟩
          refine DL_gyes rfl rfl rfl (y_move rfl) rfl ?_
          refine DL_gyes rfl rfl rfl (y_move rfl) rfl ?_
          refine DL_gyes rfl rfl rfl (y_idx Try.underlying44 sz9 rfl rfl (S8.row 1 rfl) (Nt.mk (by omega) : Nt _ (j)) (by omega)) rfl ?_
          refine DL_gyes rfl rfl rfl (y_ldr Try.underlying9 rfl rfl (S8.row 1 rfl) (sL_get hy)) rfl ?_
          refine DL_gyes rfl rfl rfl (y_move rfl) rfl ?_
          refine DL_gyes rfl rfl rfl (y_move rfl) rfl ?_
          refine DL_gyes rfl rfl rfl (y_idx Try.underlying22 sz39 rfl rfl (S8.row 0 rfl) (Nt.mk (by omega) : Nt _ (k)) (by omega)) rfl ?_
          refine DL_gyes rfl rfl rfl (y_fieldR 0 Try.underlying39 rfl sz9 rfl rfl (S8.row 0 rfl) (by omega) rfl) rfl ?_
          refine DL_gyes rfl rfl rfl (y_ldf Try.underlying9 rfl rfl (S8.row 0 rfl) (by omega) (en_nm hx)) rfl ?_
          refine DL_gyes rfl rfl rfl (y_slss rfl rfl) rfl ?_
          refine DL_y rfl (y_pk rfl rfl) rfl ?_
          refine DL_nil ?_
          refine hK14 _ _ ?_
          refine T_condB rfl (fun h37 => ?_) (fun h37 => ?_)
          ·
            have hxy : sLt y x.nm = true := by simpa using h37
            refine T_skip ?_
            refine hK13 _ _ ?_
            refine T_block ?_
            refine T_region ?_
            refine L_y (y_move rfl) rfl ?_
            refine L_y (y_add rfl rfl (i64w (by omega))) rfl ?_
            refine L_y (y_assign rfl) rfl ?_
            refine L_nil ?_
            refine ⟨j + 1, by omega, ⟨⟨by omega, lt_step hy hxy hlo⟩, S8⟩, ?_⟩
            exact (Sub.cons rfl (by first | rfl | exact congrArg (Value.int _) (by omega)) (Sub.cons rfl rfl (Sub.cons rfl rfl (Sub.cons rfl rfl (Sub.nil _)))))
          ·
            have hcut : cutN xs x.nm = j := cutN_at xs x.nm j (by omega) hlo (fun z hz => by rw [hy] at hz; cases hz; simpa using h37)
            refine T_exit ?_
            refine hK12 _ _ ?_
            refine T_seq fun K15 hK15 => ?_
            refine T_seq fun K16 hK16 => ?_
            refine T_drawnL [(0, true), (1, true), (2, true), (3, true), (4, true), (5, true), (6, true), (7, true), (8, true), (9, true), (10, true), (11, true), (12, true), (13, true), (14, true), (15, true)] hmix (by kernel_rfl) fun w9 l9 => ?_
            have S9 := S8.like l9
            refine DL_y rfl (y_move rfl) rfl ?_
            refine DL_y rfl (y_move rfl) rfl ?_
            refine DL_y rfl (y_len Try.underlying44 rfl) rfl ?_
            refine DL_y rfl (y_lss rfl rfl) rfl ?_
            refine DL_y rfl (y_move rfl) rfl ?_
            refine DL_split 44 rfl (fun h44 => ?_) (fun h44 => ?_)
            ·
              refine DL_gyes rfl rfl rfl (y_move rfl) rfl ?_
              refine DL_gyes rfl rfl rfl (y_move rfl) rfl ?_
              refine DL_gyes rfl rfl rfl (y_idx Try.underlying44 sz9 rfl rfl (S9.row 1 rfl) (Nt.mk (by omega) : Nt _ (j)) (by omega)) rfl ?_
              refine DL_gyes rfl rfl rfl (y_ldr Try.underlying9 rfl rfl (S9.row 1 rfl) (sL_get hy)) rfl ?_
              refine DL_gyes rfl rfl rfl (y_move rfl) rfl ?_
              refine DL_gyes rfl rfl rfl (y_move rfl) rfl ?_
              refine DL_gyes rfl rfl rfl (y_idx Try.underlying22 sz39 rfl rfl (S9.row 0 rfl) (Nt.mk (by omega) : Nt _ (k)) (by omega)) rfl ?_
              refine DL_gyes rfl rfl rfl (y_fieldR 0 Try.underlying39 rfl sz9 rfl rfl (S9.row 0 rfl) (by omega) rfl) rfl ?_
              refine DL_gyes rfl rfl rfl (y_ldf Try.underlying9 rfl rfl (S9.row 0 rfl) (by omega) (en_nm hx)) rfl ?_
              refine DL_gyes rfl rfl rfl (y_seql rfl rfl) rfl ?_
              refine DL_y rfl (y_pk rfl rfl) rfl ?_
              refine DL_nil ?_
              refine hK16 _ _ ?_
              refine T_condB rfl (fun h55 => ?_) (fun h55 => ?_)
              ·
                have hy9 : xs[j]? = some x.nm := by rw [hy]; exact congrArg some (by simpa using h55)
                refine T_exit ?_
                refine hK10 _ _ ?_
                refine T_region ?_
                refine L_y (y_move rfl) rfl ?_
                refine L_y (y_add rfl rfl (i64w (by omega))) rfl ?_
                refine L_y (y_assign rfl) rfl ?_
                refine L_nil ?_
                have hins : nms (q.take (k + 1)) = xs := by rw [nms_step hx, ← hxs, insN_is hcut hy9]
                refine ⟨k + 1, _, _, xs, by omega, ⟨⟨by omega, hins.symm, by omega⟩, S9⟩, ?_⟩
                exact (Sub.cons rfl (by first | rfl | (rw [hlen]; rfl) | (rw [hlen]; congr 1; omega)) (Sub.cons rfl (by first | rfl | exact congrArg (Value.int _) (by omega)) (Sub.cons rfl rfl (Sub.nil _))))
              ·
                have hne9 : xs[j]? ≠ some x.nm := by rw [hy]; intro h; injection h with h; simp [h] at h55
                refine T_skip ?_
                refine hK15 _ _ ?_
                refine T_seq fun K17 hK17 => ?_
                refine T_region ?_
                have S10 := S9.nilrow 9 1
                refine L_y (y_assign rfl) rfl ?_
                refine L_nil ?_
                refine hK17 _ _ ?_
                refine T_seq fun K18 hK18 => ?_
                refine T_region ?_
                refine L_y (y_move rfl) rfl ?_
                refine L_y (y_move rfl) rfl ?_
                refine L_y (y_move rfl) rfl ?_
                refine L_y (y_sliceH Try.underlying44 sz9 rfl rfl inferInstance (by omega)) rfl ?_
                refine L_o (o_app te44 S10 2 rfl rfl rfl ((S10.row 1 rfl).cut (l := 0) (u := j) (Nat.zero_le _) (by omega)) (fun u hu => sL_one _ _ (List.mem_of_mem_drop (List.mem_of_mem_take hu))) rfl (by omega) (by omega) fun A11 c11 w11 S11 => ?_)
                refine L_y (y_assign rfl) rfl ?_
                refine L_nil ?_
                refine hK18 _ _ ?_
                refine T_seq fun K19 hK19 => ?_
                refine T_region ?_
                refine L_y (y_move rfl) rfl ?_
                refine L_y (y_move rfl) rfl ?_
                refine L_y (y_move rfl) rfl ?_
                refine L_y (y_idx Try.underlying22 sz39 rfl rfl (S11.row 0 rfl) (Nt.mk (by omega) : Nt _ (k)) (by omega)) rfl ?_
                refine L_y (y_fieldR 0 Try.underlying39 rfl sz9 rfl rfl (S11.row 0 rfl) (by omega) rfl) rfl ?_
                refine L_y (y_ldf Try.underlying9 rfl rfl (S11.row 0 rfl) (by omega) (en_nm hx)) rfl ?_
                refine L_o (o_bsl [_] te44 zz9 S11 rfl rfl rfl rfl rfl rfl rfl rfl fun b12 w12 S12 => ?_)
                refine L_o (o_app te44 S12 2 rfl rfl rfl (by first | exact S12.row 0 rfl | exact S12.row 1 rfl | exact S12.row 2 rfl | exact S12.row 3 rfl) (by first | exact bL_one _ | exact iL_one _ | (intro u hu; simp at hu; subst hu; rfl) | (simp; done) | (simp [Value.oneCell']; done)) rfl (by omega) (by omega) fun A13 c13 w13 S13 => ?_)
                have S13d := S13.drop (rs' := [_, _, _]) (.cons_cons _ (.cons_cons _ (.cons_cons _ (.cons _ (.refl _)))))
                refine L_y (y_assign rfl) rfl ?_
                refine L_nil ?_
                refine hK19 _ _ ?_
                refine T_region ?_
                refine L_y (y_move rfl) rfl ?_
                refine L_y (y_move rfl) rfl ?_
                refine L_y (y_move rfl) rfl ?_
                refine L_y (y_sliceL Try.underlying44 sz9 rfl rfl inferInstance (by omega)) rfl ?_
                refine L_o (o_app te44 S13d 2 rfl rfl rfl ((S13d.row 1 rfl).cut (l := j) (u := xs.length) (by omega) (Nat.le_refl _)) (fun u hu => sL_one _ _ (List.mem_of_mem_drop (List.mem_of_mem_take hu))) rfl (by omega) (by omega) fun A14 c14 w14 S14 => ?_)
                refine L_y (y_assign rfl) rfl ?_
                refine L_nil ?_
                refine hK10 _ _ ?_
                refine T_region ?_
                refine L_y (y_move rfl) rfl ?_
                refine L_y (y_add rfl rfl (i64w (by omega))) rfl ?_
                refine L_y (y_assign rfl) rfl ?_
                refine L_nil ?_
                have hins : nms (q.take (k + 1)) = xs.take j ++ x.nm :: xs.drop j := by rw [nms_step hx, ← hxs, insN_at hcut hne9]
                have hlen : (xs.take j ++ x.nm :: xs.drop j).length = xs.length + 1 := by simp; omega
                have S91 := S14.rowc 2 rfl (n' := (xs.take j ++ x.nm :: xs.drop j).length) (xs' := sL (xs.take j ++ x.nm :: xs.drop j)) (by rw [hlen]; omega) (sL_ins xs j x.nm)
                have S92 := S91.drop (.cons_cons _ (.cons _ (.cons_cons _ (.refl _))))
                refine ⟨k + 1, _, _, xs.take j ++ x.nm :: xs.drop j, by omega, ⟨⟨by omega, hins.symm, by omega⟩, S92⟩, ?_⟩
                exact (Sub.cons rfl (by first | rfl | (rw [hlen]; rfl) | (rw [hlen]; congr 1; omega)) (Sub.cons rfl (by first | rfl | exact congrArg (Value.int _) (by omega)) (Sub.cons rfl rfl (Sub.nil _))))
            ·
              omega
        ·
          have hcut : cutN xs x.nm = j := cutN_at xs x.nm j (by omega) hlo (fun z hz => by rw [List.getElem?_eq_none (by omega)] at hz; cases hz)
          have hne9 : xs[j]? ≠ some x.nm := by rw [List.getElem?_eq_none (by omega)]; exact fun h => by cases h
          refine DL_gno rfl rfl rfl rfl ?_
          refine DL_gno rfl rfl rfl rfl ?_
          refine DL_gno rfl rfl rfl rfl ?_
          refine DL_gno rfl rfl rfl rfl ?_
          refine DL_gno rfl rfl rfl rfl ?_
          refine DL_gno rfl rfl rfl rfl ?_
          refine DL_gno rfl rfl rfl rfl ?_
          refine DL_gno rfl rfl rfl rfl ?_
          refine DL_gno rfl rfl rfl rfl ?_
          refine DL_gno rfl rfl rfl rfl ?_
          refine DL_y rfl (y_pk rfl rfl) rfl ?_
          refine DL_nil ?_
          refine hK14 _ _ ?_
          refine T_false rfl ?_
          refine T_exit ?_
          refine hK12 _ _ ?_
          refine T_seq fun K20 hK20 => ?_
          refine T_seq fun K21 hK21 => ?_
          refine T_drawnL [(0, true), (1, true), (2, true), (3, true), (4, true), (5, true), (6, true), (7, true), (8, true), (9, true), (10, true), (11, true), (12, true), (13, true), (14, true), (15, true)] hmix (by kernel_rfl) fun w15 l15 => ?_
          have S15 := S8.like l15
          refine DL_y rfl (y_move rfl) rfl ?_
          refine DL_y rfl (y_move rfl) rfl ?_
          refine DL_y rfl (y_len Try.underlying44 rfl) rfl ?_
          refine DL_y rfl (y_lss rfl rfl) rfl ?_
          refine DL_y rfl (y_move rfl) rfl ?_
          refine DL_split 44 rfl (fun h44 => ?_) (fun h44 => ?_)
          ·
            omega
          ·
            refine DL_gno rfl rfl rfl rfl ?_
            refine DL_gno rfl rfl rfl rfl ?_
            refine DL_gno rfl rfl rfl rfl ?_
            refine DL_gno rfl rfl rfl rfl ?_
            refine DL_gno rfl rfl rfl rfl ?_
            refine DL_gno rfl rfl rfl rfl ?_
            refine DL_gno rfl rfl rfl rfl ?_
            refine DL_gno rfl rfl rfl rfl ?_
            refine DL_gno rfl rfl rfl rfl ?_
            refine DL_gno rfl rfl rfl rfl ?_
            refine DL_y rfl (y_pk rfl rfl) rfl ?_
            refine DL_nil ?_
            refine hK21 _ _ ?_
            refine T_false rfl ?_
            refine T_skip ?_
            refine hK20 _ _ ?_
            refine T_seq fun K22 hK22 => ?_
            refine T_region ?_
            have S16 := S15.nilrow 9 1
            refine L_y (y_assign rfl) rfl ?_
            refine L_nil ?_
            refine hK22 _ _ ?_
            refine T_seq fun K23 hK23 => ?_
            refine T_region ?_
            refine L_y (y_move rfl) rfl ?_
            refine L_y (y_move rfl) rfl ?_
            refine L_y (y_move rfl) rfl ?_
            refine L_y (y_sliceH Try.underlying44 sz9 rfl rfl inferInstance (by omega)) rfl ?_
            refine L_o (o_app te44 S16 2 rfl rfl rfl ((S16.row 1 rfl).cut (l := 0) (u := j) (Nat.zero_le _) (by omega)) (fun u hu => sL_one _ _ (List.mem_of_mem_drop (List.mem_of_mem_take hu))) rfl (by omega) (by omega) fun A17 c17 w17 S17 => ?_)
            refine L_y (y_assign rfl) rfl ?_
            refine L_nil ?_
            refine hK23 _ _ ?_
            refine T_seq fun K24 hK24 => ?_
            refine T_region ?_
            refine L_y (y_move rfl) rfl ?_
            refine L_y (y_move rfl) rfl ?_
            refine L_y (y_move rfl) rfl ?_
            refine L_y (y_idx Try.underlying22 sz39 rfl rfl (S17.row 0 rfl) (Nt.mk (by omega) : Nt _ (k)) (by omega)) rfl ?_
            refine L_y (y_fieldR 0 Try.underlying39 rfl sz9 rfl rfl (S17.row 0 rfl) (by omega) rfl) rfl ?_
            refine L_y (y_ldf Try.underlying9 rfl rfl (S17.row 0 rfl) (by omega) (en_nm hx)) rfl ?_
            refine L_o (o_bsl [_] te44 zz9 S17 rfl rfl rfl rfl rfl rfl rfl rfl fun b18 w18 S18 => ?_)
            refine L_o (o_app te44 S18 2 rfl rfl rfl (by first | exact S18.row 0 rfl | exact S18.row 1 rfl | exact S18.row 2 rfl | exact S18.row 3 rfl) (by first | exact bL_one _ | exact iL_one _ | (intro u hu; simp at hu; subst hu; rfl) | (simp; done) | (simp [Value.oneCell']; done)) rfl (by omega) (by omega) fun A19 c19 w19 S19 => ?_)
            have S19d := S19.drop (rs' := [_, _, _]) (.cons_cons _ (.cons_cons _ (.cons_cons _ (.cons _ (.refl _)))))
            refine L_y (y_assign rfl) rfl ?_
            refine L_nil ?_
            refine hK24 _ _ ?_
            refine T_region ?_
            refine L_y (y_move rfl) rfl ?_
            refine L_y (y_move rfl) rfl ?_
            refine L_y (y_move rfl) rfl ?_
            refine L_y (y_sliceL Try.underlying44 sz9 rfl rfl inferInstance (by omega)) rfl ?_
            refine L_o (o_app te44 S19d 2 rfl rfl rfl ((S19d.row 1 rfl).cut (l := j) (u := xs.length) (by omega) (Nat.le_refl _)) (fun u hu => sL_one _ _ (List.mem_of_mem_drop (List.mem_of_mem_take hu))) rfl (by omega) (by omega) fun A20 c20 w20 S20 => ?_)
            refine L_y (y_assign rfl) rfl ?_
            refine L_nil ?_
            refine hK10 _ _ ?_
            refine T_region ?_
            refine L_y (y_move rfl) rfl ?_
            refine L_y (y_add rfl rfl (i64w (by omega))) rfl ?_
            refine L_y (y_assign rfl) rfl ?_
            refine L_nil ?_
            have hins : nms (q.take (k + 1)) = xs.take j ++ x.nm :: xs.drop j := by rw [nms_step hx, ← hxs, insN_at hcut hne9]
            have hlen : (xs.take j ++ x.nm :: xs.drop j).length = xs.length + 1 := by simp; omega
            have S91 := S20.rowc 2 rfl (n' := (xs.take j ++ x.nm :: xs.drop j).length) (xs' := sL (xs.take j ++ x.nm :: xs.drop j)) (by rw [hlen]; omega) (sL_ins xs j x.nm)
            have S92 := S91.drop (.cons_cons _ (.cons _ (.cons_cons _ (.refl _))))
            refine ⟨k + 1, _, _, xs.take j ++ x.nm :: xs.drop j, by omega, ⟨⟨by omega, hins.symm, by omega⟩, S92⟩, ?_⟩
            exact (Sub.cons rfl (by first | rfl | (rw [hlen]; rfl) | (rw [hlen]; congr 1; omega)) (Sub.cons rfl (by first | rfl | exact congrArg (Value.int _) (by omega)) (Sub.cons rfl rfl (Sub.nil _))))
    ·
      refine T_exit ?_
      refine hK6 _ _ ?_
      refine T_seq fun K25 hK25 => ?_
      refine T_region ?_
      refine L_y (y_move rfl) rfl ?_
      refine L_y (y_assign rfl) rfl ?_
      refine L_nil ?_
      refine hK25 _ _ ?_
      refine T_ret ?_
      refine ur ?_
      refine ret1 rfl rfl ?_
      have hkn : k = n + m := by omega
      subst hkn
      rw [List.take_of_length_le (by omega)] at hxs
      subst hxs
      rw [hq]
      exact ⟨_, rfl, S6.like0, _, _, rfl, S6.own 1 rfl⟩
end Go.Proofs.Ytmgimcdkeelnpaa.Mrg


/-
  Lists that are handed out.
-/
namespace Go.Proofs.Ytmgimcdkeelnpaa.Mrg
open Go.RowKit Zk Zx
set_option linter.unusedVariables false
set_option linter.unusedSimpArgs false

/-- A list that is handed out, k entries of it gone: the sorted row, the slice, the place. -/
def pullR (b4 b5 : Nat) (A : Option Addr) (c : Nat) (l : List EV) (k : Nat) : Res :=
  apR (Zx.row 39 34 A l.length c (l.flatMap enf)) (apR (Zx.blk b4 22 #[.slice A l.length c]) (Zx.blk b5 3 #[.int .i64 (k : Int)]))
theorem pull_open {w0 w : World} {M : Nat → Prop} {ps : List Res} {b4 b5 : Nat} {A : Option Addr} {c : Nat} {l : List EV} {k : Nat} (S : Zx.St w0 M (ps ++ [pullR b4 b5 A c l k]) w) :
    Zx.St w0 M (ps ++ [Zx.row 39 34 A l.length c (l.flatMap enf), Zx.blk b4 22 #[.slice A l.length c], Zx.blk b5 3 #[.int .i64 (k : Int)]]) w := by
  have h := S.splitA
  have e : ps ++ [Zx.row 39 34 A l.length c (l.flatMap enf), apR (Zx.blk b4 22 #[.slice A l.length c]) (Zx.blk b5 3 #[.int .i64 (k : Int)])] = (ps ++ [Zx.row 39 34 A l.length c (l.flatMap enf)]) ++ [apR (Zx.blk b4 22 #[.slice A l.length c]) (Zx.blk b5 3 #[.int .i64 (k : Int)])] := by simp
  rw [e] at h
  have h2 := h.splitA
  simpa using h2
theorem pull_shut {w0 w : World} {M : Nat → Prop} {ps : List Res} {b4 b5 : Nat} {A : Option Addr} {c : Nat} {l : List EV} {k : Nat} (S : Zx.St w0 M (ps ++ [Zx.row 39 34 A l.length c (l.flatMap enf), Zx.blk b4 22 #[.slice A l.length c], Zx.blk b5 3 #[.int .i64 (k : Int)]]) w) : Zx.St w0 M (ps ++ [pullR b4 b5 A c l k]) w := by
  have e : ps ++ [Zx.row 39 34 A l.length c (l.flatMap enf), Zx.blk b4 22 #[.slice A l.length c], Zx.blk b5 3 #[.int .i64 (k : Int)]] = (ps ++ [Zx.row 39 34 A l.length c (l.flatMap enf)]) ++ [Zx.blk b4 22 #[.slice A l.length c], Zx.blk b5 3 #[.int .i64 (k : Int)]] := by simp
  rw [e] at S
  have h2 := S.joinA
  rw [List.append_assoc] at h2
  exact h2.joinA
def lookV (b4 b5 : Nat) : Value := .func (.func 49) #[] #[.pointer (some ⟨b5, 0, none⟩), .pointer (some ⟨b4, 0, none⟩)]
def overV (b4 b5 : Nat) : Value := .func (.func 50) #[] #[.pointer (some ⟨b4, 0, none⟩), .pointer (some ⟨b5, 0, none⟩)]
/-- The entry that comes next. -/
def hdE (l : List EV) (k : Nat) : EV := (l[k]?).getD zE
theorem pull_rs {w : World} {b4 b5 : Nat} {A : Option Addr} {c : Nat} {l : List EV} {k : Nat} (h : (pullR b4 b5 A c l k).holds w) : Rs w 34 A l.length c (l.flatMap enf) := rs_of_row h.1
theorem pull_b4 {w : World} {b4 b5 : Nat} {A : Option Addr} {c : Nat} {l : List EV} {k : Nat} (h : (pullR b4 b5 A c l k).holds w) : Blk w b4 22 #[.slice A l.length c] := h.2.1.1
theorem pull_b5 {w : World} {b4 b5 : Nat} {A : Option Addr} {c : Nat} {l : List EV} {k : Nat} (h : (pullR b4 b5 A c l k).holds w) : Blk w b5 3 #[.int .i64 (k : Int)] := h.2.1.2.1
/-- Over the entries of a name. -/
def Over (l : List EV) (x : EV) (k j : Nat) : Prop := k ≤ j ∧ j ≤ l.length ∧ (∀ i y, k ≤ i → i < j → l[i]? = some y → y.nm = x.nm)
theorem over_step {l : List EV} {x y : EV} {k j : Nat} (h : Over l x k j) (hy : l[j]? = some y) (hn : y.nm = x.nm) : Over l x k (j + 1) := ⟨by have := h.1; omega, by have := (List.getElem?_eq_some_iff.1 hy).1; omega, fun i z h1 h2 hz => by
  rcases Nat.lt_or_ge i j with q | q
  · exact h.2.2 i z h1 q hz
  · have e : i = j := by omega
    subst e
    rw [hy] at hz
    cases hz
    exact hn⟩


set_option maxRecDepth 100000 in
theorem look (b4 b5 : Nat) (A : Option Addr) (c : Nat) (l : List EV) (k : Nat) (w0 : World) (hp : (pullR b4 b5 A c l k).holds w0) (hk : k ≤ l.length) :
    Calls Try.prog 49 #[.pointer (some ⟨b5, 0, none⟩), .pointer (some ⟨b4, 0, none⟩)] w0 fun e w' => ∃ u, e = .returned u ∧ Like w0 w' ∧ u = .tuple #[.agg (enf (hdE l k)).toArray, .bool (decide (k < l.length))] := by
  refine enter1 (env := [(0, .pointer (some ⟨b5, 0, none⟩)), (1, .pointer (some ⟨b4, 0, none⟩))]) [.pointer (some ⟨b5, 0, none⟩), .pointer (some ⟨b4, 0, none⟩)] Try.func49 rfl Try.ntmps49 rfl rfl ?_
  have hcap := (pull_rs hp).cap; have hmax := (pull_rs hp).max; have S0 := St.start w0 noM
  refine T_seq fun K1 hK1 => ?_
  refine T_region ?_
  refine L_o (o_alloc zz39 S0 rfl fun b1 w1 hb1 S1 => ?_)
  refine L_y (y_assign rfl) rfl ?_
  refine L_nil ?_
  refine hK1 _ _ ?_
  refine T_seq fun K2 hK2 => ?_
  refine T_seq fun K3 hK3 => ?_
  refine T_region ?_
  refine L_y (y_ldc Try.underlying3 rfl rfl (((S1.rdB (pull_b5 hp)).cell _).trans (by rfl))) rfl ?_
  refine L_y (y_ldc Try.underlying22 rfl rfl (((S1.rdB (pull_b4 hp)).cell _).trans (by rfl))) rfl ?_
  refine L_y (y_len Try.underlying22 rfl) rfl ?_
  refine L_y (y_eql rfl rfl) rfl ?_
  refine L_nil ?_
  refine hK3 _ _ ?_
  refine T_cond rfl (fun h7 => ?_) (fun h7 => ?_)
  ·
    refine T_seq fun K4 hK4 => ?_
    refine T_region ?_
    refine L_y (y_build rfl built39) rfl ?_
    refine L_o (o_stW S1 0 rfl rfl rfl (by rw [enf_sz]; exact sz39) (by first | (rw [enf_sz]; done) | (rw [enf_sz]; rfl) | (rw [enf_sz, enf_sz]; done)) (enf_one _) fun w2 S2 => ?_)
    refine L_y (y_assign rfl) rfl ?_
    refine L_nil ?_
    refine hK4 _ _ ?_
    refine T_ret ?_
    refine ur ?_
    refine retct rfl rfl rfl (S2.blk 0 rfl) Try.underlying39 rfl (by first | exact sz39 | (rw [enf_sz]; exact sz39)) ?_
    first | (have e1 : hdE l k = x := by (unfold hdE; rw [hx]; rfl)); exact ⟨_, rfl, S2.like0, by rw [e1, decide_eq_true (by omega)]⟩ | (have e1 : hdE l k = zE := by (unfold hdE; rw [List.getElem?_eq_none (by omega)]; rfl)); exact ⟨_, rfl, S2.like0, by rw [e1, decide_eq_false (by omega)]⟩
  ·
    obtain ⟨x, hx⟩ : ∃ x, l[k]? = some x := ⟨_, List.getElem?_eq_getElem (by omega)⟩
    refine T_skip ?_
    refine hK2 _ _ ?_
    refine T_seq fun K5 hK5 => ?_
    refine T_region ?_
    refine L_y (y_ldc Try.underlying22 rfl rfl (((S1.rdB (pull_b4 hp)).cell _).trans (by rfl))) rfl ?_
    refine L_y (y_ldc Try.underlying3 rfl rfl (((S1.rdB (pull_b5 hp)).cell _).trans (by rfl))) rfl ?_
    refine L_y (y_idx Try.underlying22 sz39 rfl rfl (S1.rd (pull_rs hp)) (Nt.mk (by omega) : Nt _ (k)) (by omega)) rfl ?_
    refine L_y (y_ldp (f := enf) enf_len Try.underlying39 rfl sz39 rfl (S1.rd (pull_rs hp)) (by omega) hx) rfl ?_
    refine L_o (o_stW S1 0 rfl rfl rfl (by rw [enf_sz]; exact sz39) (by first | (rw [enf_sz]; done) | (rw [enf_sz]; rfl) | (rw [enf_sz, enf_sz]; done)) (enf_one _) fun w3 S3 => ?_)
    refine L_y (y_assign rfl) rfl ?_
    refine L_nil ?_
    refine hK5 _ _ ?_
    refine T_ret ?_
    refine ur ?_
    refine retct rfl rfl rfl (S3.blk 0 rfl) Try.underlying39 rfl (by first | exact sz39 | (rw [enf_sz]; exact sz39)) ?_
    first | (have e1 : hdE l k = x := by (unfold hdE; rw [hx]; rfl)); exact ⟨_, rfl, S3.like0, by rw [e1, decide_eq_true (by omega)]⟩ | (have e1 : hdE l k = zE := by (unfold hdE; rw [List.getElem?_eq_none (by omega)]; rfl)); exact ⟨_, rfl, S3.like0, by rw [e1, decide_eq_false (by omega)]⟩


set_option maxRecDepth 100000 in
theorem over (b4 b5 : Nat) (A : Option Addr) (c : Nat) (l : List EV) (k : Nat) (x : EV) (w0 : World) (hp : (pullR b4 b5 A c l k).holds w0) (hd : ∀ i, (pullR b4 b5 A c l k).dom i → i < w0.heap.size) (hx : l[k]? = some x) (hl9 : l.length ≤ 10000) :
    Calls Try.prog 50 #[.pointer (some ⟨b4, 0, none⟩), .pointer (some ⟨b5, 0, none⟩)] w0 fun e w' => ∃ u, e = .returned u ∧ ∃ j, Over l x k j ∧ (∀ y, l[j]? = some y → y.nm ≠ x.nm) ∧ Turned w0 w' (pullR b4 b5 A c l k) (pullR b4 b5 A c l j) := by
  refine enter1 (env := [(0, .pointer (some ⟨b4, 0, none⟩)), (1, .pointer (some ⟨b5, 0, none⟩))]) [.pointer (some ⟨b4, 0, none⟩), .pointer (some ⟨b5, 0, none⟩)] Try.func50 rfl Try.ntmps50 rfl rfl ?_
  have hcap := (pull_rs hp).cap; have hmax := (pull_rs hp).max; have hkl := (List.getElem?_eq_some_iff.1 hx).1
  have S00 := St.borrow1 (pullR b4 b5 A c l k) hp hd
  have S0 : Zx.St w0 (pullR b4 b5 A c l k).dom [Zx.row 39 34 A l.length c (l.flatMap enf), Zx.blk b4 22 #[.slice A l.length c], Zx.blk b5 3 #[.int .i64 (k : Int)]] w0 := pull_open (ps := []) S00
  refine T_seq fun K1 hK1 => ?_
  refine T_region ?_
  refine L_y (y_ldc Try.underlying22 rfl rfl (((S0.blk 1 rfl).cell _).trans (by rfl))) rfl ?_
  refine L_y (y_ldc Try.underlying3 rfl rfl (((S0.blk 2 rfl).cell _).trans (by rfl))) rfl ?_
  refine L_y (y_idx Try.underlying22 sz39 rfl rfl (S0.row 0 rfl) (Nt.mk (by omega) : Nt _ (k)) (by omega)) rfl ?_
  refine L_y (y_fieldR 0 Try.underlying39 rfl sz9 rfl rfl (S0.row 0 rfl) (by omega) rfl) rfl ?_
  refine L_y (y_ldf Try.underlying9 rfl rfl (S0.row 0 rfl) (by omega) (en_nm hx)) rfl ?_
  refine L_y (y_assign rfl) rfl ?_
  refine L_nil ?_
  refine hK1 _ _ ?_
  refine T_block ?_
  refine T_loop1 [(0, _), (1, _), (2, _)] (fun (j : Nat) => []) (fun (j : Nat) => l.length - j) (fun (j : Nat) (w : World) => Over l x k j ∧ Zx.St w0 (pullR b4 b5 A c l k).dom [Zx.row 39 34 A l.length c (l.flatMap enf), Zx.blk b4 22 #[.slice A l.length c], Zx.blk b5 3 #[.int .i64 (j : Int)]] w) k (Sub.nil _) (Sub.cons rfl rfl (Sub.cons rfl rfl (Sub.cons rfl rfl (Sub.nil _)))) ?_ ?_
  ·
    exact ⟨⟨Nat.le_refl _, by omega, fun i y h1 h2 => absurd h2 (by omega)⟩, S0⟩
  ·
    intro j w1 hrel
    obtain ⟨ho, S1⟩ := hrel
    have hjl := ho.2.1
    refine T_seq fun K2 hK2 => ?_
    refine T_seq fun K3 hK3 => ?_
    refine T_region ?_
    refine L_y (y_ldc Try.underlying3 rfl rfl (((S1.blk 2 rfl).cell _).trans (by rfl))) rfl ?_
    refine L_y (y_ldc Try.underlying22 rfl rfl (((S1.blk 1 rfl).cell _).trans (by rfl))) rfl ?_
    refine L_y (y_len Try.underlying22 rfl) rfl ?_
    refine L_y (y_lss rfl rfl) rfl ?_
    refine L_y (y_move rfl) rfl ?_
    refine L_split 12 rfl (fun h12 => ?_) (fun h12 => ?_)
    ·
      obtain ⟨y, hy⟩ : ∃ y, l[j]? = some y := ⟨_, List.getElem?_eq_getElem (by omega)⟩
      refine L_gyes rfl rfl ?_
      refine L_y (y_ldc Try.underlying22 rfl rfl (((S1.blk 1 rfl).cell _).trans (by rfl))) rfl ?_
      refine L_gyes rfl rfl ?_
      refine L_y (y_ldc Try.underlying3 rfl rfl (((S1.blk 2 rfl).cell _).trans (by rfl))) rfl ?_
      refine L_gyes rfl rfl ?_
      refine L_y (y_idx Try.underlying22 sz39 rfl rfl (S1.row 0 rfl) (Nt.mk (by omega) : Nt _ (j)) (by omega)) rfl ?_
      refine L_gyes rfl rfl ?_
      refine L_y (y_fieldR 0 Try.underlying39 rfl sz9 rfl rfl (S1.row 0 rfl) (by omega) rfl) rfl ?_
      refine L_gyes rfl rfl ?_
      refine L_y (y_ldf Try.underlying9 rfl rfl (S1.row 0 rfl) (by omega) (en_nm hy)) rfl ?_
      refine L_gyes rfl rfl ?_
      refine L_y (y_move rfl) rfl ?_
      refine L_gyes rfl rfl ?_
      refine L_y (y_seql rfl rfl) rfl ?_
      refine L_y (y_pk rfl rfl) rfl ?_
      refine L_nil ?_
      refine hK3 _ _ ?_
      refine T_condB rfl (fun h20 => ?_) (fun h20 => ?_)
      ·
        refine T_skip ?_
        refine hK2 _ _ ?_
        refine T_block ?_
        refine T_region ?_
        refine L_y (y_ldc Try.underlying3 rfl rfl (((S1.blk 2 rfl).cell _).trans (by rfl))) rfl ?_
        refine L_y (y_add rfl rfl (i64w (by omega))) rfl ?_
        refine L_o (o_st1 S1 2 rfl rfl rfl rfl sz3 (by simp; done) fun w3 S3 => ?_)
        have S9 := S3.blkc 2 rfl (cs' := #[.int .i64 ((j + 1 : Nat) : Int)]) (by rfl)
        refine L_nil ?_
        refine ⟨j + 1, by omega, ⟨over_step ho hy (by simpa using h20), S9⟩, ?_⟩
        exact (Sub.cons rfl rfl (Sub.cons rfl rfl (Sub.cons rfl rfl (Sub.nil _))))
      ·
        refine T_exit ?_
        first | refine end0 (fn := Try.f50) rfl ?_ | (simp only [thenQ, inB, if_true]; refine end0 (fn := Try.f50) rfl ?_)
        exact ⟨_, rfl, j, ho, (fun y hy => by (rename_i hy8; rw [hy8] at hy; cases hy; simpa using h20)), (pull_shut (ps := []) S1).turned1 0 rfl⟩
    ·
      refine L_gno rfl rfl rfl ?_
      refine L_gno rfl rfl rfl ?_
      refine L_gno rfl rfl rfl ?_
      refine L_gno rfl rfl rfl ?_
      refine L_gno rfl rfl rfl ?_
      refine L_gno rfl rfl rfl ?_
      refine L_gno rfl rfl rfl ?_
      refine L_y (y_pk rfl rfl) rfl ?_
      refine L_nil ?_
      refine hK3 _ _ ?_
      refine T_false rfl ?_
      refine T_exit ?_
      first | refine end0 (fn := Try.f50) rfl ?_ | (simp only [thenQ, inB, if_true]; refine end0 (fn := Try.f50) rfl ?_)
      exact ⟨_, rfl, j, ho, (fun y hy => by (rw [List.getElem?_eq_none (by omega)] at hy; cases hy)), (pull_shut (ps := []) S1).turned1 0 rfl⟩


set_option maxRecDepth 100000 in
theorem pull (A : Option Addr) (c : Nat) (l : List EV) (w0 : World) (hl : Rs w0 34 A l.length c (l.flatMap enf)) (hn5 : l.length ≤ 10000) :
    Calls Try.prog 42 #[.slice A l.length c] w0 fun e w' => ∃ u, e = .returned u ∧ Like w0 w' ∧ ∃ b4 b5 A' c', u = .tuple #[lookV b4 b5, overV b4 b5] ∧ (pullR b4 b5 A' c' (srt ltN l) 0).holds w' ∧ ∀ i, (pullR b4 b5 A' c' (srt ltN l) 0).dom i → w0.heap.size ≤ i ∧ i < w'.heap.size := by
  refine enter1 (env := [(0, .slice A l.length c)]) [.slice A l.length c] Try.func42 rfl Try.ntmps42 rfl rfl ?_
  have hcap := hl.cap; have hmax := hl.max; have S0 := St.start w0 noM
  refine T_seq fun K1 hK1 => ?_
  refine T_region ?_
  refine L_y (y_assign rfl) rfl ?_
  refine L_y (y_assign rfl) rfl ?_
  refine L_nil ?_
  refine hK1 _ _ ?_
  refine T_seq fun K2 hK2 => ?_
  refine T_region ?_
  refine L_y (y_move rfl) rfl ?_
  refine L_o (o_call Try.func23 rfl rfl (clone A c l w0 (S0.rd hl) hn5) rfl rfl ?_)
  rintro e1 w1 ⟨v1, rfl, l1, A5, c5, rfl, O1⟩
  refine ⟨_, rfl, ?_⟩
  have S1 := S0.adopt l1 O1
  refine L_o (o_alloc zz22 S1 rfl fun b2 w2 hb2 S2 => ?_)
  refine L_o (o_st1 S2 1 rfl rfl rfl rfl sz22 Nat.zero_lt_one fun w3 S3 => ?_)
  refine L_nil ?_
  refine hK2 _ _ ?_
  refine T_seq fun K3 hK3 => ?_
  refine T_region ?_
  refine L_y (y_ldc Try.underlying22 rfl rfl (((S3.blk 1 rfl).cell _).trans (by rfl))) rfl ?_
  refine L_o (o_call Try.func24 rfl rfl (sortst A5 l.length c5 l 48 ltN w3 (S3.get 0 rfl) cmpN rfl hn5) rfl rfl ?_)
  rintro e4 w4 ⟨v4, rfl, T4⟩
  refine ⟨_, rfl, ?_⟩
  have S4 := S3.turn 0 rfl T4
  refine L_nil ?_
  refine hK3 _ _ ?_
  refine T_seq fun K4 hK4 => ?_
  refine T_region ?_
  refine L_o (o_alloc zz3 S4 rfl fun b5 w5 hb5 S5 => ?_)
  refine L_o (o_st1 S5 2 rfl rfl rfl rfl sz3 Nat.zero_lt_one fun w6 S6 => ?_)
  refine L_nil ?_
  refine hK4 _ _ ?_
  refine T_seq fun K5 hK5 => ?_
  refine T_region ?_
  refine L_y (y_makeFunc rfl rfl) rfl ?_
  refine L_y (y_assign rfl) rfl ?_
  refine L_nil ?_
  refine hK5 _ _ ?_
  refine T_seq fun K6 hK6 => ?_
  refine T_region ?_
  refine L_y (y_makeFunc rfl rfl) rfl ?_
  refine L_y (y_assign rfl) rfl ?_
  refine L_nil ?_
  refine hK6 _ _ ?_
  refine T_seq fun K7 hK7 => ?_
  refine T_region ?_
  refine L_y (y_move rfl) rfl ?_
  refine L_y (y_move rfl) rfl ?_
  refine L_y (y_assign rfl) rfl ?_
  refine L_y (y_assign rfl) rfl ?_
  refine L_nil ?_
  refine hK7 _ _ ?_
  refine T_ret ?_
  refine ur ?_
  refine ret2 rfl rfl rfl ?_
  have S8 := S6.rowc 0 rfl (n' := (srt ltN l).length) (xs' := (srt ltN l).flatMap enf) (by rw [srt_len]) rfl
  have S9 := S8.blkc 1 rfl (cs' := #[.slice A5 (srt ltN l).length c5]) (by rw [srt_len]; rfl)
  have S10 := pull_shut (ps := []) S9
  exact ⟨_, rfl, S6.like0, _, _, A5, c5, rfl, S10.get 0 rfl, fun i hi => ⟨((S10.res _ (List.mem_singleton.2 rfl)).2 i hi).2.elim id (fun h => h.elim), ((S10.res _ (List.mem_singleton.2 rfl)).2 i hi).1⟩⟩
end Go.Proofs.Ytmgimcdkeelnpaa.Mrg
