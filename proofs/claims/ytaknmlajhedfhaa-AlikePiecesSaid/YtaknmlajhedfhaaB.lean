/-
  The program: counts.
-/
import Derived.Test.YtaknmlajhedfhaaA
import Derived.Test.YtaknmlajhedfhaaFa
namespace Go.Proofs.Ytaknmlajhedfhaa
open Go.RowKit Zk Zx
set_option linter.unusedVariables false
set_option linter.unusedSimpArgs false

theorem cutF_end (now : List UInt8) (c : UInt8) (r : List UInt8) (h : c = 10 ∨ now.length + 1 = 64 ∨ r = []) : cutF now (c :: r) = (now ++ [c]) :: cutF [] r := by
  rw [cutF]
  split
  · rfl
  · rename_i h1
    have hr : r = [] := by
      rcases h with h | h | h
      · exact absurd (.inl h) h1
      · exact absurd (.inr h) h1
      · exact h
    subst hr
    simp [cutF]
theorem cutF_on (now : List UInt8) (c : UInt8) (r : List UInt8) (h : ¬ (c = 10 ∨ now.length + 1 = 64)) : cutF now (c :: r) = cutF (now ++ [c]) r := by rw [cutF, if_neg h]
theorem win_snoc {l : List UInt8} {f i : Nat} {c : UInt8} (hf : f ≤ i) (h : l[i]? = some c) : (l.drop f).take (i - f) ++ [c] = (l.drop f).take (i + 1 - f) := by
  rw [show i + 1 - f = (i - f) + 1 by omega, List.take_add_one, List.getElem?_drop, show f + (i - f) = i by omega, h]
  rfl
theorem drop_at {l : List UInt8} {i : Nat} {c : UInt8} (h : l[i]? = some c) : l.drop i = c :: l.drop (i + 1) := by
  obtain ⟨h1, h2⟩ := List.getElem?_eq_some_iff.1 h
  rw [List.drop_eq_getElem_cons h1, h2]
theorem u8_ten {c : UInt8} : (c.toNat : Int) = 10 ↔ c = 10 := by
  constructor
  · intro h
    exact UInt8.toNat_inj.1 (show c.toNat = (10 : UInt8).toNat by show c.toNat = 10; omega)
  · intro h
    subst h
    rfl
theorem bsz (x : List UInt8) : (⟨x.toArray⟩ : ByteArray).size = x.length := by
  show x.toArray.size = _
  simp
theorem keyS (x : List UInt8) (h : x.length ≤ 9223372036854775807) : keyOf Try.prog 9 (.string ⟨x.toArray⟩) = some (.string x) := by
  have := @Go.WideMaps.keyOf_string_mk Try.prog 9 Try.underlying9 ⟨x.toArray⟩ (by rw [bsz]; unfold maxLen; exact h)
  simpa using this
theorem bL_getX {l : List UInt8} {k : Nat} {x : UInt8} (h : l[k]? = some x) : (bL l)[k]? = some (Value.int .u8 (x.toNat : Int)) := bL_get l k x h
theorem wfI (c : Nat) (h : c ≤ 9223372036854775807) : (Lit.int .i64 (c : Int)).wf = true := by
  simp [Lit.wf, IntKind.min, IntKind.max, IntKind.signed, IntKind.bits]
  omega


set_option maxRecDepth 100000 in
theorem counts (A : Option Addr) (n c0 : Nat) (l : List UInt8) (w0 : World) (hb : Rs w0 1 A n c0 (bL l)) (hn : n ≤ 4398046511104) :
    Calls Try.prog 20 #[.slice A n c0] w0 fun e w' => ∃ u, e = .returned u ∧ Like w0 w' ∧ ∃ b D k, u = .map (some b) ∧ w0.heap.size ≤ b ∧ (mapR Try.prog 9 3 b k D).holds w' ∧ CM D (cuts l) ∧ k ≤ n := by
  refine enter1 (env := [(0, .slice A n c0)]) [.slice A n c0] Try.func20 rfl Try.ntmps20 rfl rfl ?_
  have hln := hb.lenb; have hcap := hb.cap; have hmx := hb.max; have S0 := St.start w0 noM
  refine T_seq fun K1 hK1 => ?_
  refine T_region ?_
  refine L_y (y_assign rfl) rfl ?_
  refine L_nil ?_
  refine hK1 _ _ ?_
  refine T_seq fun K2 hK2 => ?_
  refine T_region ?_
  refine L_o (o_makeMap (t := 48) (k := 9) (e := 3) S0 rfl fun b1 w1 hb1 S1 => ?_)
  refine L_y (y_assign rfl) rfl ?_
  refine L_nil ?_
  refine hK2 _ _ ?_
  refine T_seq fun K3 hK3 => ?_
  refine T_region ?_
  refine L_y (y_assign rfl) rfl ?_
  refine L_nil ?_
  refine hK3 _ _ ?_
  refine T_seq fun K4 hK4 => ?_
  refine T_seq fun K5 hK5 => ?_
  refine T_region ?_
  refine L_y (y_move rfl) rfl ?_
  refine L_y (y_len Try.underlying22 rfl) rfl ?_
  refine L_y (y_move rfl) rfl ?_
  refine L_nil ?_
  refine hK5 _ _ ?_
  refine T_block ?_
  refine T_loop4 [(0, _), (3, _), (8, _), (9, _)] (fun (i : Nat) (f : Nat) (D : DU) (done : List (List UInt8)) => [(4, .int .i64 (f : Int)), (10, .int .i64 (i : Int))]) (fun (i : Nat) (f : Nat) (D : DU) (done : List (List UInt8)) => n - i) (fun (i : Nat) (f : Nat) (D : DU) (done : List (List UInt8)) (w : World) => ((f ≤ i ∧ i ≤ n ∧ i - f < 64 ∧ done.length ≤ i ∧ (i = n → f = n)) ∧ CM D done ∧ cuts l = done ++ cutF ((l.drop f).take (i - f)) (l.drop i)) ∧ St w0 noM [mapR Try.prog 9 3 b1 done.length D] w) 0 0 (.map []) [] (Sub.cons rfl (by first | rfl | exact congrArg (Value.int _) (by omega)) (Sub.cons rfl (by first | rfl | exact congrArg (Value.int _) (by omega)) (Sub.nil _))) (Sub.cons rfl rfl (Sub.cons rfl rfl (Sub.cons rfl rfl (Sub.cons rfl rfl (Sub.nil _))))) ?_ ?_
  ·
    exact ⟨⟨⟨by omega, by omega, by omega, by simp, fun h => h⟩, CM.nil, by simp [cuts]⟩, S1⟩
  ·
    intro i f D done w2 hrel
    obtain ⟨⟨⟨hf, hi, h64, hdl, hfe⟩, hcm, hcut⟩, S2⟩ := hrel
    refine T_seq fun K6 hK6 => ?_
    refine T_region ?_
    refine L_y (y_lss rfl rfl) rfl ?_
    refine L_nil ?_
    refine hK6 _ _ ?_
    refine T_seq fun K7 hK7 => ?_
    refine T_cond rfl (fun h11 => ?_) (fun h11 => ?_)
    ·
      obtain ⟨c, hc⟩ : ∃ c, l[i]? = some c := ⟨_, List.getElem?_eq_getElem (by omega)⟩
      have hdr := drop_at hc
      have hwin := win_snoc hf hc
      have hlw : ((l.drop f).take (i - f)).length = i - f := by rw [List.length_take, List.length_drop]; omega
      have hten := u8_ten (c := c)
      refine T_skip ?_
      refine hK7 _ _ ?_
      refine T_seq fun K8 hK8 => ?_
      refine T_block ?_
      refine T_seq fun K9 hK9 => ?_
      refine T_region ?_
      refine L_y (y_move rfl) rfl ?_
      refine L_y (y_idx Try.underlying22 sz5 rfl rfl (S2.rd hb) inferInstance (by omega)) rfl ?_
      refine L_y (y_ldr Try.underlying5 rfl rfl (S2.rd hb) (bL_getX hc)) rfl ?_
      refine L_y (y_assign rfl) rfl ?_
      refine L_y (y_assign rfl) rfl ?_
      refine L_nil ?_
      refine hK9 _ _ ?_
      refine T_seq fun K10 hK10 => ?_
      refine T_region ?_
      refine L_y (y_move rfl) rfl ?_
      refine L_y (y_eql rfl rfl) rfl ?_
      refine L_y (y_move rfl) rfl ?_
      refine L_split 17 rfl (fun h17 => ?_) (fun h17 => ?_)
      ·
        refine L_gno rfl rfl rfl ?_
        refine L_gno rfl rfl rfl ?_
        refine L_gno rfl rfl rfl ?_
        refine L_gno rfl rfl rfl ?_
        refine L_gno rfl rfl rfl ?_
        refine L_y ((by first | exact y_pickT rfl rfl | exact y_pickF rfl rfl)) rfl ?_
        refine L_y (y_move rfl) rfl ?_
        refine L_gno rfl rfl rfl ?_
        refine L_gno rfl rfl rfl ?_
        refine L_gno rfl rfl rfl ?_
        refine L_gno rfl rfl rfl ?_
        refine L_gno rfl rfl rfl ?_
        refine L_y ((by first | exact y_pickT rfl rfl | exact y_pickF rfl rfl)) rfl ?_
        refine L_nil ?_
        refine hK10 _ _ ?_
        refine T_true rfl ?_
        refine T_seq fun K11 hK11 => ?_
        have hcl := List.count_le_length (a := (l.drop f).take (i + 1 - f)) (l := done)
        refine T_region ?_
        refine L_y (y_move rfl) rfl ?_
        refine L_y (y_move rfl) rfl ?_
        refine L_y (y_move rfl) rfl ?_
        refine L_y (y_move rfl) rfl ?_
        refine L_y (y_add rfl rfl (i64w (by omega))) rfl ?_
        refine L_y (y_slice Try.underlying22 sz5 rfl rfl rfl inferInstance inferInstance (by omega) (by omega)) rfl ?_
        refine L_y (y_bstr Try.underlying22 Try.underlying5 Try.underlying9 rfl ((S2.rd hb).cutb (l := f) (u := i + 1) (by omega) (by omega))) rfl ?_
        refine L_y (y_look (S2.get 0 rfl) (Maps.string_keyed Try.underlying9) Try.underlying48 Try.underlying3 zz3 rfl rfl (keyS _ (by simp; omega)) (hcm.at_ _)) rfl ?_
        refine L_y (y_add rfl rfl (i64w (by omega))) rfl ?_
        refine L_o (o_mapUp S2 0 rfl (Maps.string_keyed Try.underlying9) Try.underlying48 Try.underlying3 rfl rfl rfl (keyS _ (by simp; omega)) (by omega) (by have := List.count_le_length (a := ((l.drop f).take (i + 1 - f))) (l := done); exact wfI (done.count ((l.drop f).take (i + 1 - f)) + 1) (by omega)) fun w4 S4 => ?_)
        refine L_nil ?_
        refine hK11 _ _ ?_
        refine T_region ?_
        refine L_y (y_move rfl) rfl ?_
        refine L_y (y_add rfl rfl (i64w (by omega))) rfl ?_
        refine L_y (y_assign rfl) rfl ?_
        refine L_nil ?_
        refine hK8 _ _ ?_
        refine T_region ?_
        refine L_y (y_add rfl rfl (i64w (by omega))) rfl ?_
        refine L_y (y_move rfl) rfl ?_
        refine L_nil ?_
        have hce := cutF_end ((l.drop f).take (i - f)) c (l.drop (i + 1)) (by rw [hlw]; first | (left; exact hten.1 (by assumption)) | (right; left; omega) | (right; right; exact List.drop_of_length_le (by omega)))
        refine ⟨i + 1, i + 1, _, done ++ [(l.drop f).take (i + 1 - f)], by omega, ⟨⟨⟨by omega, by omega, by omega, by simp; omega, fun h => h⟩, hcm.put _ _ rfl, by rw [hcut, hdr, hce, hwin, Nat.sub_self]; simp⟩, by rw [List.length_append]; exact S4⟩, ?_⟩
        exact (Sub.cons rfl (by first | rfl | exact congrArg (Value.int _) (by omega)) (Sub.cons rfl (by first | rfl | exact congrArg (Value.int _) (by omega)) (Sub.cons rfl rfl (Sub.cons rfl rfl (Sub.cons rfl rfl (Sub.cons rfl rfl (Sub.nil _)))))))
      ·
        refine L_gyes rfl rfl ?_
        refine L_y (y_move rfl) rfl ?_
        refine L_gyes rfl rfl ?_
        refine L_y (y_add rfl rfl (i64w (by omega))) rfl ?_
        refine L_gyes rfl rfl ?_
        refine L_y (y_move rfl) rfl ?_
        refine L_gyes rfl rfl ?_
        refine L_y (y_sub rfl rfl (i64w (by omega))) rfl ?_
        refine L_gyes rfl rfl ?_
        refine L_y (y_eql rfl rfl) rfl ?_
        refine L_y ((by first | exact y_pickT rfl rfl | exact y_pickF rfl rfl)) rfl ?_
        refine L_y (y_move rfl) rfl ?_
        refine L_split 24 rfl (fun h24 => ?_) (fun h24 => ?_)
        ·
          refine L_gno rfl rfl rfl ?_
          refine L_gno rfl rfl rfl ?_
          refine L_gno rfl rfl rfl ?_
          refine L_gno rfl rfl rfl ?_
          refine L_gno rfl rfl rfl ?_
          refine L_y ((by first | exact y_pickT rfl rfl | exact y_pickF rfl rfl)) rfl ?_
          refine L_nil ?_
          refine hK10 _ _ ?_
          refine T_true rfl ?_
          refine T_seq fun K12 hK12 => ?_
          have hcl := List.count_le_length (a := (l.drop f).take (i + 1 - f)) (l := done)
          refine T_region ?_
          refine L_y (y_move rfl) rfl ?_
          refine L_y (y_move rfl) rfl ?_
          refine L_y (y_move rfl) rfl ?_
          refine L_y (y_move rfl) rfl ?_
          refine L_y (y_add rfl rfl (i64w (by omega))) rfl ?_
          refine L_y (y_slice Try.underlying22 sz5 rfl rfl rfl inferInstance inferInstance (by omega) (by omega)) rfl ?_
          refine L_y (y_bstr Try.underlying22 Try.underlying5 Try.underlying9 rfl ((S2.rd hb).cutb (l := f) (u := i + 1) (by omega) (by omega))) rfl ?_
          refine L_y (y_look (S2.get 0 rfl) (Maps.string_keyed Try.underlying9) Try.underlying48 Try.underlying3 zz3 rfl rfl (keyS _ (by simp; omega)) (hcm.at_ _)) rfl ?_
          refine L_y (y_add rfl rfl (i64w (by omega))) rfl ?_
          refine L_o (o_mapUp S2 0 rfl (Maps.string_keyed Try.underlying9) Try.underlying48 Try.underlying3 rfl rfl rfl (keyS _ (by simp; omega)) (by omega) (by have := List.count_le_length (a := ((l.drop f).take (i + 1 - f))) (l := done); exact wfI (done.count ((l.drop f).take (i + 1 - f)) + 1) (by omega)) fun w6 S6 => ?_)
          refine L_nil ?_
          refine hK12 _ _ ?_
          refine T_region ?_
          refine L_y (y_move rfl) rfl ?_
          refine L_y (y_add rfl rfl (i64w (by omega))) rfl ?_
          refine L_y (y_assign rfl) rfl ?_
          refine L_nil ?_
          refine hK8 _ _ ?_
          refine T_region ?_
          refine L_y (y_add rfl rfl (i64w (by omega))) rfl ?_
          refine L_y (y_move rfl) rfl ?_
          refine L_nil ?_
          have hce := cutF_end ((l.drop f).take (i - f)) c (l.drop (i + 1)) (by rw [hlw]; first | (left; exact hten.1 (by assumption)) | (right; left; omega) | (right; right; exact List.drop_of_length_le (by omega)))
          refine ⟨i + 1, i + 1, _, done ++ [(l.drop f).take (i + 1 - f)], by omega, ⟨⟨⟨by omega, by omega, by omega, by simp; omega, fun h => h⟩, hcm.put _ _ rfl, by rw [hcut, hdr, hce, hwin, Nat.sub_self]; simp⟩, by rw [List.length_append]; exact S6⟩, ?_⟩
          exact (Sub.cons rfl (by first | rfl | exact congrArg (Value.int _) (by omega)) (Sub.cons rfl (by first | rfl | exact congrArg (Value.int _) (by omega)) (Sub.cons rfl rfl (Sub.cons rfl rfl (Sub.cons rfl rfl (Sub.cons rfl rfl (Sub.nil _)))))))
        ·
          refine L_gyes rfl rfl ?_
          refine L_y (y_move rfl) rfl ?_
          refine L_gyes rfl rfl ?_
          refine L_y (y_add rfl rfl (i64w (by omega))) rfl ?_
          refine L_gyes rfl rfl ?_
          refine L_y (y_move rfl) rfl ?_
          refine L_gyes rfl rfl ?_
          refine L_y (y_len Try.underlying22 rfl) rfl ?_
          refine L_gyes rfl rfl ?_
          refine L_y (y_eql rfl rfl) rfl ?_
          refine L_y ((by first | exact y_pickT rfl rfl | exact y_pickF rfl rfl)) rfl ?_
          refine L_nil ?_
          refine hK10 _ _ ?_
          refine T_cond rfl (fun h30 => ?_) (fun h30 => ?_)
          ·
            refine T_seq fun K13 hK13 => ?_
            have hcl := List.count_le_length (a := (l.drop f).take (i + 1 - f)) (l := done)
            refine T_region ?_
            refine L_y (y_move rfl) rfl ?_
            refine L_y (y_move rfl) rfl ?_
            refine L_y (y_move rfl) rfl ?_
            refine L_y (y_move rfl) rfl ?_
            refine L_y (y_add rfl rfl (i64w (by omega))) rfl ?_
            refine L_y (y_slice Try.underlying22 sz5 rfl rfl rfl inferInstance inferInstance (by omega) (by omega)) rfl ?_
            refine L_y (y_bstr Try.underlying22 Try.underlying5 Try.underlying9 rfl ((S2.rd hb).cutb (l := f) (u := i + 1) (by omega) (by omega))) rfl ?_
            refine L_y (y_look (S2.get 0 rfl) (Maps.string_keyed Try.underlying9) Try.underlying48 Try.underlying3 zz3 rfl rfl (keyS _ (by simp; omega)) (hcm.at_ _)) rfl ?_
            refine L_y (y_add rfl rfl (i64w (by omega))) rfl ?_
            refine L_o (o_mapUp S2 0 rfl (Maps.string_keyed Try.underlying9) Try.underlying48 Try.underlying3 rfl rfl rfl (keyS _ (by simp; omega)) (by omega) (by have := List.count_le_length (a := ((l.drop f).take (i + 1 - f))) (l := done); exact wfI (done.count ((l.drop f).take (i + 1 - f)) + 1) (by omega)) fun w7 S7 => ?_)
            refine L_nil ?_
            refine hK13 _ _ ?_
            refine T_region ?_
            refine L_y (y_move rfl) rfl ?_
            refine L_y (y_add rfl rfl (i64w (by omega))) rfl ?_
            refine L_y (y_assign rfl) rfl ?_
            refine L_nil ?_
            refine hK8 _ _ ?_
            refine T_region ?_
            refine L_y (y_add rfl rfl (i64w (by omega))) rfl ?_
            refine L_y (y_move rfl) rfl ?_
            refine L_nil ?_
            have hce := cutF_end ((l.drop f).take (i - f)) c (l.drop (i + 1)) (by rw [hlw]; first | (left; exact hten.1 (by assumption)) | (right; left; omega) | (right; right; exact List.drop_of_length_le (by omega)))
            refine ⟨i + 1, i + 1, _, done ++ [(l.drop f).take (i + 1 - f)], by omega, ⟨⟨⟨by omega, by omega, by omega, by simp; omega, fun h => h⟩, hcm.put _ _ rfl, by rw [hcut, hdr, hce, hwin, Nat.sub_self]; simp⟩, by rw [List.length_append]; exact S7⟩, ?_⟩
            exact (Sub.cons rfl (by first | rfl | exact congrArg (Value.int _) (by omega)) (Sub.cons rfl (by first | rfl | exact congrArg (Value.int _) (by omega)) (Sub.cons rfl rfl (Sub.cons rfl rfl (Sub.cons rfl rfl (Sub.cons rfl rfl (Sub.nil _)))))))
          ·
            refine T_skip ?_
            refine hK8 _ _ ?_
            refine T_region ?_
            refine L_y (y_add rfl rfl (i64w (by omega))) rfl ?_
            refine L_y (y_move rfl) rfl ?_
            refine L_nil ?_
            have hco := cutF_on ((l.drop f).take (i - f)) c (l.drop (i + 1)) (by rw [hlw]; intro h; rcases h with h | h; exact absurd (hten.2 h) (by assumption); omega)
            refine ⟨i + 1, f, D, done, by omega, ⟨⟨⟨by omega, by omega, by omega, by omega, fun h => by omega⟩, hcm, by rw [hcut, hdr, hco, hwin]⟩, S2⟩, ?_⟩
            exact (Sub.cons rfl (by first | rfl | exact congrArg (Value.int _) (by omega)) (Sub.cons rfl (by first | rfl | exact congrArg (Value.int _) (by omega)) (Sub.cons rfl rfl (Sub.cons rfl rfl (Sub.cons rfl rfl (Sub.cons rfl rfl (Sub.nil _)))))))
    ·
      have hin : i = n := by omega
      refine T_exit ?_
      refine hK4 _ _ ?_
      refine T_seq fun K14 hK14 => ?_
      refine T_region ?_
      refine L_y (y_move rfl) rfl ?_
      refine L_y (y_assign rfl) rfl ?_
      refine L_nil ?_
      refine hK14 _ _ ?_
      refine T_ret ?_
      repeat (first | with_reducible refine up_then ?_ | with_reducible refine up_in ?_)
      refine ret1 rfl rfl ?_
      exact ⟨_, rfl, S2.like0, b1, D, done.length, rfl, hb1, S2.get 0 rfl, by rw [hcut, hin, hfe hin, show l.drop n = [] from List.drop_of_length_le (by omega)]; simpa [cutF] using hcm, by omega⟩
end Go.Proofs.Ytaknmlajhedfhaa
